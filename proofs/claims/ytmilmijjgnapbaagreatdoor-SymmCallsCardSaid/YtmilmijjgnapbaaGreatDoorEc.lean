/- Part of the proof: an evaluator of the model's code, rules for walks on it, walks. Without conditions. -/
import Derived.Test.YtmilmijjgnapbaaGreatDoorEb
import Derived.Test.YtmilmijjgnapbaaGreatDoorEa
import Derived.KernelRfl
import Init
import Derived.Shelf.SlSortCmp.NoneTotal
import Derived.Sort.AssemblyPlain
import Derived.ReadAgain
import Derived.ProofKit
import Derived.Test.YtmilmijjgnapbaaGreatDoorProg
set_option linter.unusedSectionVars false
set_option linter.unusedVariables false
set_option linter.unusedSimpArgs false
noncomputable section
namespace Go.Ev
variable [Env]
def cS {α:Type} (m E:Nat) (R:α->List J->Prop) (l:List α) (u:J) (M:Own):Prop:=
 (l= []/\u= .au/\M= [])∨∃(b:Nat) (c:nL) (cells:List J) (e:Nat),u= .slice b 0 l.length c/\M= [(b,.row cells e false)]/\cells.length=l.length*m/\(∀(i:Nat) (x:α),l[i]? =some x->R x ((cells.drop (i*m)).take m))/\(c= .known l.length∨(c= .upto m/\e=E))/\l.length<=1048576
inductive eI {α:Type} (m E:Nat) (R:α->List J->Prop):List (List α)->List J->Own->Prop
 | nil:eI m E R [] [] []
 | snoc {ls:List (List α)} {us:List J} {M M1:Own} {l:List α} {u:J}:eI m E R ls us M->cS m E R l u M1->eI m E R (ls++[l]) (us++[u]) (M1++M)
section
variable {α:Type} {m E:Nat} {R:α->List J->Prop} {l:List α} {u:J} {M:Own} {K:KP} {ls:List (List α)} {us:List J}
theorem cS.leaf (h:cS m E R l u M):cd u=some [u]/\fJ u=true:=by
 rcases h with ⟨_,rfl,_⟩ | ⟨b,c,cells,e,rfl,_⟩<;>exact⟨rfl,rfl⟩
theorem cS.gS (h:cS m E R l u M) (hk:∀e∈M,K e.1 e.2):bG K m R l u:=by
 rcases h with ⟨h1,d,_⟩ | ⟨b,c,cells,e,rfl,rfl,h3,h4,h5,h6⟩
 ·exact .inl ⟨h1,d⟩
 refine .inr ⟨b,0,c,cells,e,false,Z,?_,hk _<|mS_ ..,by omega,by omega,fun i x hx=>by simp_all⟩;rcases h5 with h5 | h5
 ·exact .inr ⟨_,h5,nR_ _⟩
 exact .inl h5.1
theorem eI.length (h:eI m E R ls us M):us.length=ls.length:=by
 induction h with
 | nil=>rfl
 | snoc _ _ ih=>simp[ih]
theorem eI.at (h:eI m E R ls us M):∀{i:Nat} {l:List α},ls[i]? =some l->∃u M1 A B_,us[i]? =some u/\cS m E R l u M1/\M=A++(M1++B_)/\∀l' u' d,cS m E R l' u' d->eI m E R (ls.set i l') (us.set i u') (A++(d++B_)):=by
 induction h with
 | nil=>simp_all
 | @snoc ls us M M1 l u h h1 ih=>
  intro i x hx;have hl:=h.length
  by_cases hi:i<ls.length
  ·rw[gL_ hi] at hx;obtain⟨C,F,A,B_,k1,I,rfl,T⟩:=ih hx;refine⟨C,F,M1++A,B_,by grind,I,by simp,fun l' u' M' h'=>?_⟩;rw[List.set_append_left _ _ hi,List.set_append_left _ _ oM,lQ_];exact .snoc (T l' u' M' h') h1
  have hlt:=(gA.1 hx).1;rw[lA_,List.length_singleton] at hlt;obtain rfl:i=ls.length:=by omega
  rw[gR_<|nR_ _,Nat.sub_self] at hx;simp only[List.getElem?_cons_zero,oJ_] at hx;subst hx;refine⟨u,M1,[],M,by simp_all,h1,Z,fun l' u' M' h'=>?_⟩;rw[List.set_append_right _ _<|nR_ _,List.set_append_right _ _ oM,hl,Nat.sub_self];exact eI.snoc (M1:=M') (M:=M) h h'
theorem eI.each (h:eI m E R ls us M) (hk:∀e∈M,K e.1 e.2):∀(i:Nat) (l:List α),ls[i]? =some l->∃u,us[i]? =some u/\bG K m R l u:=by
 intro i l hl;obtain⟨u,M1,A,B_,h1,d,rfl,_⟩:=h.at hl;exact⟨u,h1,d.gS fun e he=>hk e (by simp[he])⟩
theorem eI.gS (h:eI m E R ls us M) (hk:∀e∈M,K e.1 e.2) {b e n:Nat} (hb:K b (.row us e false)) (d:n=ls.length) (hl:ls.length<=1048576):bG K 1 (RL K m R) ls (.slice b 0 n (.known n)):=by
 subst d;refine .inr ⟨b,0,_,us,e,false,Z,.inr ⟨_,Z,nR_ _⟩,hb,by rw[h.length];omega,by omega,fun i x hx=>?_⟩;obtain⟨u,h1,A⟩:=h.each hk i x hx;refine⟨u,?_,A⟩;obtain⟨aa,rfl⟩:=gA.1 h1
 grind [List.drop_eq_getElem_cons]
end
section
variable {V:N} {K:KP} {L M:Own} {b:Nat} {o:cu}
theorem St.Pf (h:St V K (M++(b,o)::L)) (o':cu):St (V.setObj b o') K (M++(b,o')::L):=((h.perm List.perm_middle).tO o').perm List.perm_middle.symm
theorem jR (v:J):∀n,ec [v] n=List.replicate n v
 | 0=>rfl
 | n+1=>by
  show gg [v] (ec [v] n)=_;rw[dH,jR v n];rfl
end
section
variable {P:Program} {G:Cx} {ev:Operand->Option J} {V:N}
theorem vw {t e w n:Nat} {k k':IntKind} {z:List J} {lo co:Operand} (A:P.underlying t=some (.slice e)) (hw:(P.info? e).map (·.bytes)=some w) (hz:(eQ P e).bind cd=some z)
  (d:((P.info? e).any fun j=>Nat.beq (di z) j.size && Nat.ble 1 j.size)=true) (hl:ev lo=some (.int k (.ofNat n))) (hc:ev co=some (.int k' (.ofNat n))) (hn:w*n<=1048576) (aa:n<=1048576):
  dM P G ev V (.makeSlice t lo co)= .val (.slice V.next 0 n (.known n)) (V.alloc (.row (ec z n) e false)):=by
 refine qo (mk:=.slice n n) Z ?_;obtain⟨j,hj,rfl⟩:=oM_.1 hw;rw[hj] at d;simp only[Option.any_some,bA_] at d;simp only[eZ,A,hl,hc,hj,hz];rw[d.1,d.2,show Nat.ble n n=true by simp_all,show Nat.ble (j.bytes*n) 1048576=true by simp_all,show Nat.ble n 1048576=true by simp_all];rfl
end
theorem cH.leaf:∀x vs,cH x vs->bO vs=true:=fun _ _ h=>by cases h;rfl
theorem nX.leaf:∀x vs,nX x vs->bO vs=true:=fun _ _ h=>by cases h;rfl
theorem kz.leaf:∀x vs,kz x vs->bO vs=true:=fun _ _ h=>by cases h;rfl
end Go.Ev
namespace Go.Ev
variable [Env]
inductive kY (b:Nat) (o':cu):Own->Own->Prop
 | here {o:cu} {L:Own}:kY b o' ((b,o)::L) ((b,o')::L)
 | there {x:Nat×cu} {L L':Own}:kY b o' L L'->kY b o' (x::L) (x::L')
 | gX {M L L':Own}:kY b o' L L'->kY b o' (M++L) (M++L')
section
variable {V:N} {K:KP} {L L':Own} {b:Nat} {o':cu}
theorem kY.Te (h:kY b o' L L'):∃A B_ o,L=A++(b,o)::B_/\L'=A++(b,o')::B_:=by
 induction h with
 | here=>exact⟨[],_,_,Z,Z⟩
 | @there x L L' h ih=>grind
 | @gX M L L' h ih=>grind
theorem St.Sl (h:St V K L) (hu:kY b o' L L'):St (V.setObj b o') K L':=by
 obtain⟨A,B_,o,rfl,rfl⟩:=hu.Te;exact h.Pf o'
theorem St.sub (h:St V K L) (d:L'.Sublist L):St V K L' where
 kept b o hb:=let ⟨h1,A,C⟩:=h.kept b o hb;⟨h1,A,fun e he=>C e (d.subset he)⟩
 own e he:=h.own e (d.subset he)
 ne:=h.ne.sublist d
theorem gP {M L L':Own} (h:L'.Sublist L):(M++L').Sublist (M++L):=(List.append_sublist_append_left M).2 h
end
section
variable {P:Program} {G:Cx} {n:Nat} {t:PT J} {V:N} {K:KP} {L:Own} {Q:Ex->PT J->N->Prop} {ops:Array Oper} {o:Oper} {l:List Oper} {i:Nat} {rc:List Nat} {lp:List (Nat×List Nat)}
theorem gj {b:Nat} {ob':cu} {L':Own} {t':PT J} (d:St V K L) (hu:kY b ob' L L') (hw:bF ops t o=some true) (hv:dM P G (bn G t) V o.op= .skip (V.setObj b ob')) (hp:dA t n o.dst unit=some t')
  (h:∀V',St V' K L'->bP P G ops n l t' V' Q):bP P G ops n (o::l) t V Q:=lu hw hv hp (h _<|d.Sl hu)
theorem jP {b:Nat} {ob':cu} {L':Own} {t':PT J} (A:St V K L) (hu:kY b ob' L L') (d:ops[i]? =some o) (hw:bF ops t o=some true) (hv:dM P G (bn G t) V o.op= .skip (V.setObj b ob')) (hp:dA t n o.dst unit=some t')
  (h:∀V',St V' K L'->(dc P G ops t' V' rc=true/\cE P G ops n lp t' V' Q)):cE P G ops n ((i,rc)::lp) t V Q:=ns d hw hv hp (h _<|A.Sl hu)
end
section
variable {P:Program} {t:PT J} {V:N}
theorem iq {fn:Func} {j ty b m e:Nat} {ro:Bool} {cells:List J} (A:fn.results.toList= [.cell j ty]) (h1:t.get j=some (.ptr b 0)) (hm:V.m.get b=some (.row cells e ro)) (C:dN P ty=some (some m)) (d:cells.length=m):dU P fn t V=some (.agg cells):=by
 unfold dU;rw[A]
 have e1:fm P t V (.cell j ty)=some (J.agg cells):=by
  show(match t.get (posOf j) with
   | some (.ptr b off)=>match V.m.get b with
    | some (.row cells _ _)=>match dN P ty with
     | some (some n)=>bif Nat.ble (off+n) (di cells) then some (J.agg<|takeN (dK cells off) n) else none
     | some none=>nth cells off
     | none=>none
    | _=>none
   | _=>none)=_
  rw[show t.get (posOf j)=some (.ptr b 0) from h1];dsimp only;rw[hm];dsimp only;rw[C];dsimp only;rw[bT,d,nA_,show Nat.ble m m=true by simp_all,dp,dF,List.drop_zero,<-d,List.take_length];rfl
 have:cM (fm P t V) [.cell j ty]=some [J.agg cells]:=by
  unfold cM;simp only[e1]
 rw[this]
theorem Hn {fn:Func} {R:J->N->Prop} {j ty b m e:Nat} {ro:Bool} {cells:List J} (d:fn.results.toList= [.cell j ty]) (h1:t.get j=some (.ptr b 0)) (hm:V.m.get b=some (.row cells e ro)) (A:dN P ty=some (some m)) (C:cells.length=m) (F:R (.agg cells) V):Ek P fn R .ret t V:=
 ⟨.inr Z,_,iq d h1 hm A C,F⟩
end
end Go.Ev
namespace Go.Ev
variable [Env]
theorem Kj {α:Type} {m E:Nat} {R:α->List J->Prop} {l1 l2:List α} {d news:List J} {b e:Nat} {c:nL} {n:Nat} (aa:d.length=l1.length*m) (h1:∀(i:Nat) (x:α),l1[i]? =some x->R x ((d.drop (i*m)).take m)) (ab:news.length=l2.length*m) (h2:∀(i:Nat) (x:α),l2[i]? =some x->R x ((news.drop (i*m)).take m))
  (A:n=l1.length+l2.length) (hc:c= .known n∨(c= .upto m/\e=E)) (hle:n<=1048576):cS m E R (l1++l2) (.slice b 0 n c) [(b,.row (d++news) e false)]:=by
 subst A;refine .inr ⟨b,c,_,e,by simp_all,Z,by grind,fun i x hx=>?_,by simp_all,by simp_all⟩
 by_cases hi:i<l1.length
 ·rw[gL_ hi] at hx;have hle:(i+1)*m<=l1.length*m:=nM_ _ hi
  grind
 grind [nM_,List.drop_append,List.drop_eq_nil_of_le,Nat.sub_mul]
def ed (g:XG) (loc:Int):List cQ:=
 bif bM (bY g) 0 then(bif dy loc 0 then [] else match g.order[loc.toNat]? with | some l=>⟨0,loc⟩::l | none=>[]) else []
theorem Bh {g:XG} {loc:Int} (h:bM (bY g) 0=false):ed g loc= []:=by unfold ed;rw[h];rfl
theorem Dr {g:XG} {loc:Int} (h:dy loc 0=true):ed g loc= []:=by unfold ed;simp_all
theorem Dq {g:XG} {loc:Nat} (h:g.order.length<=loc):ed g (.ofNat loc)= []:=by
 unfold ed
 simp_all
theorem gG {g:XG} {loc:Nat} {l:List cQ} (hc:bM (bY g) 0=true) (h:g.order[loc]? =some l):ed g (.ofNat loc)=⟨0,.ofNat loc⟩::l:=by
 have e:(Int.ofNat loc).toNat=loc:=rfl;have e2:dy (.ofNat loc) 0=false:=by rw[show(0:Int)= .ofNat 0 from Z,gM];simp
 unfold ed
 simp_all
end Go.Ev
namespace Go.Ev
variable [Env]
theorem pD {P:Program} {G:Cx} {ev:Operand->Option J} {V:N} {c:Call} {x y:Operand} {a b:Int} {k:IntKind} (hc:c.callee= .builtin .min) (d:c.args.toList= [x,y]) (hx:ev x=some (.int k a)) (hy:ev y=some (.int k b)):dM P G ev V (.call c)= .val (.int k (bif dy b a then b else a)) V:=by
 refine bD (by simp[kindOf,hc]) ?_;have e:sQ k k=true:=by cases k<;>rfl
 simp only[du,hc,d,hx,hy,OM,e,cond_true]
section
variable {P:Program} {G:Cx}
def Og (P:Program) (G:Cx) (f:Nat) (args:List J) (V:N) (R:J->N->Prop):Prop:=
 ∃(K:Nat) (v:J) (V':N),(∀k,K<=k->lV P G (ea P G k) f args V= .ret v V')/\R v V'
end
section
variable {P:Program} {G:Cx} {ev:Operand->Option J} {V:N}
theorem sX {hi:Operand} {k:IntKind} {h' len cap:Nat} (h:ev hi=some (.int k (.ofNat h'))) (hl:h'<=cap):cO ev len cap none (some hi)=some (0,h'):=by
 simp only[cO,dW,h,show Nat.ble h' cap=true by simp_all,cond_true]
theorem Du {t e sz b off len cap l h:Nat} {x:Operand} {lo hi:Option Operand} (m:P.underlying t=some (.slice e)) (hj:(P.info? e).map (·.size)=some sz) (hx:ev x=some (.slice b off len (.known cap))) (hb:cO ev len cap lo hi=some (l,h)) (hl:l<cap):
  dM P G ev V (.slice t x lo hi none)= .val (.slice b (off+l*sz) (h-l) (.known (cap-l))) V:=by
 refine bD Z ?_;obtain⟨j,d,rfl⟩:=oM_.1 hj
 have:Nat.beq cap l=false:=by
  grind [nB]
 simp only[du,fy,m,hx,cutAt,hb,cut,d,this,cond_false]
theorem Dv {t e sz b off len l h:Nat} {x:Operand} {lo hi:Option Operand} (m:P.underlying t=some (.slice e)) (hj:(P.info? e).map (·.size)=some sz) (hx:ev x=some (.slice b off len (.upto sz))) (hb:cO ev len len lo hi=some (l,h)):
  dM P G ev V (.slice t x lo hi none)= .val (.slice b (off+l*sz) (h-l) (.upto sz)) V:=by
 refine bD Z ?_;obtain⟨j,d,rfl⟩:=oM_.1 hj;simp only[du,fy,m,hx,hb,d,Nat.beq_refl,cond_true]
end
section
variable {P:Program} {G:Cx} {ev:Operand->Option J} {V:N}
end
section
variable {P:Program} {G:Cx} {n:Nat} {t:PT J} {V:N} {K:KP} {L:Own} {Q:Ex->PT J->N->Prop} {ops:Array Oper} {o:Oper} {l:List Oper}
end
section
variable {P:Program} {G:Cx} {V:N} {K:KP} {L:Own}
theorem zD {α:Type} {m e:Nat} {R:α->List J->Prop} {l2:List α} {A:J} {ts:Array TypeId} {t:TypeId} (C:St V K L) (hx:bG K m R l2 A) (d:∀x vs,R x vs->bO vs=true) (hn:l2.length<=1048576) (aa:1<=l2.length)
  (E:ts[0]? =some t) (hu:P.underlying t=some (.slice e)) (u:nh P e m=true) (F:dt P ts[1]? =true):
  ∃news,eR P V ts .au A= .val (.slice V.next 0 l2.length (.upto m)) (V.alloc (.row news e false))/\news.length=l2.length*m/\∀(i:Nat) (x:α),l2[i]? =some x->R x ((news.drop (i*m)).take m):=by
 obtain⟨news,I,M,T,U⟩:=qi C hx d;refine⟨news,?_,M,U⟩;unfold nh at u;split at u
 ·rename_i j hj;simp only[bA_] at u;obtain⟨W,X,a3,a4⟩:=u;have hm:j.size=m:=nB W;subst hm;have hz:((P.info? e).any fun j=>(j.zero.bind nP).any fun z=>(cd z).any fun cs=>Nat.beq (di cs) j.size)=true:=by rw[hj];exact a4
  have h0:Nat.beq l2.length 0=false:=by
   grind [nB]
  unfold eR;rw[E];dsimp only;rw[hu];dsimp only;rw[hj] at hz⊢;dsimp only;rw[F,X,a3];simp only[Bool.and_self,cond_true];rw[I];dsimp only;rw[T,show Nat.ble l2.length 1048576=true by simp_all,hz];simp only[Bool.and_self,cond_true,h0,cond_false];rfl
 cases u
end
section
variable {P:Program} {G:Cx} {n:Nat} {t:PT J} {V:N} {K:KP} {L:Own} {Q:Ex->PT J->N->Prop} {ops:Array Oper} {o:Oper} {l:List Oper}
end
section
variable {V:N} {K:KP} {L:Own} {b:Nat} {o:cu}
def KP.sub (K:KP) (b:Nat):KP:=fun b' o'=>K b' o'/\b'≠b
theorem St.two {b b':Nat} {o o' o1 aa:cu} (hb:b<V.next) (d:b'<V.next) (hne:b≠b'):St (fp V b o b' o') (fun _ _=>False) [(b,o),(b',o')] where
 kept _ _ h:=h.elim
 own e he:=by
  rcases mQ_.1 he with rfl | he
  ·exact⟨hb,by show((PT.leaf.put (some o) b).put (some o') b').get b=_;grind [PT.db,PT.de]⟩
  rcases mQ_.1 he with rfl | he
  ·exact⟨d,PT.de _ _ _⟩
  cases he
 ne:=List.pairwise_cons.2 ⟨fun e he=>(by simp_all),List.pairwise_singleton ..⟩
end
inductive fQ (X:Own):Own->Own->Prop
 | here {L:Own}:fQ X (X++L) L
 | there {y:Nat×cu} {L L0:Own}:fQ X L L0->fQ X (y::L) (y::L0)
 | gX {M L L0:Own}:fQ X L L0->fQ X (M++L) (M++L0)
theorem fQ.perm {X L L0:Own} (h:fQ X L L0):L.Perm (X++L0):=by
 induction h with
 | here=>simp_all
 | @there y L L0 _ ih=>exact(List.Perm.cons y ih).trans List.perm_middle.symm
 | @gX M L L0 _ ih=>
  refine(List.Perm.append_left M ih).trans ?_
  grind [List.Perm.append_right,List.perm_append_comm]
theorem fQ.yO {X A B_ L:Own}:fQ X ((A++(X++B_))++L) ((A++B_)++L):=by
 rw[lQ_,lQ_,lQ_];exact .gX .here
section
variable {V:N} {K:KP} {L L0 X:Own}
theorem St.pull (h:St V K L) (hi:fQ X L L0):St V K (X++L0):=h.perm hi.perm
theorem St.push (h:St V K (X++L0)) (hi:fQ X L L0):St V K L:=h.perm hi.perm.symm
end
def Jt (g:XG) (tm:Nat) (e:cU) (fr:cQ) (pl:Nat) (row:List cU) (frow:List cQ) (orow:List cQ) (loc:Nat):XG:=
 {init:=g.init,threads:=g.threads.set tm (row++[e]),from_:=g.from_.set tm (frow++[fr]),order:=bif bH e then g.order.set loc (orow.take pl++⟨.ofNat (tm+1),.ofNat row.length⟩::orow.drop pl) else g.order}
def ng (g:XG) (th:Int) (e:cU) (fr:cQ) (pl:Int):Option XG×Int:=
 bif !bM (bY g) 0 then(none,2) else
 bif dy th 1 then(none,9) else
 bif dy (.ofNat g.threads.length) th then(none,9) else
 match g.threads[th.toNat-1]?,g.from_[th.toNat-1]? with
 | some row,some frow=>
  bif !dy (.ofNat row.length) 14 then(none,3) else
  bif (bif bH e then(bif dy pl 1 then true else dy (.ofNat (ed g e.loc).length) pl) else !bM pl 0) then(none,2) else
  let g':=Jt g (th.toNat-1) e fr (pl.toNat-1) row frow ((g.order[e.loc.toNat]?).getD []) e.loc.toNat
  bif bM (bY g') 0 then(some g',0) else(none,2)
 | _,_=>(none,9)
theorem Lz {P:Program} {G:Cx} {ev:Operand->Option J} {V:N} {α:Type} {m E:Nat} {R:α->List J->Prop} {l:List α} {u:J} {M:Own} {c:Call} {t e:TypeId} {x:Operand} (h:cS m E R l u M) (hc:c.callee= .builtin .len) (d:c.argTypes[0]? =some t) (A:c.args.toList= [x]) (hu:P.underlying t=some (.slice e)) (hx:ev x=some u):
  dM P G ev V (.call c)= .val (.int .i64 (.ofNat l.length)) V:=
 aO (K:=fun b o=>(b,o)∈M) (h.gS fun e he=>he) hc d A hu hx
theorem pL (b o l c:Nat):dL (.slice b o l (.known c)) (.slice b o l (.known c))=true:=by
 unfold dL;show(dL.beqP b b && Nat.beq o o && Nat.beq l l && dL.beqC (.known c) (.known c))=true
 grind [dL.beqP,Nat.beq_refl,dL.beqC]
theorem iK {us:List J} {u:J} {i:Nat} (h:i<us.length):dB [u] us (0+i*1)=us.set i u:=by
 rw[show 0+i*1=i by omega,kW _ _ _ (by grind),List.length_singleton,List.set_eq_take_append_cons_drop,if_pos h,lQ_];rfl
theorem EW {n:Int} (h:dy n 1=false):∃m:Nat,n= .ofNat (m+1):=by
 cases n with
 | negSucc k=>cases h
 | ofNat k=>
  have:1<=k:=bC (a:=k) (b:=1) h;exact⟨k-1,by simp_all⟩
theorem As {m:LM} {k:List Int} (h:(fB m k).isSome=true):(kF m k).length+1=m.length:=by
 unfold fB at h;unfold kF;cases b:oQ m k 0 with
 | none=>rw[b] at h;cases h
 | some p=>
  obtain⟨j,v⟩:=p;have h1:=(pY b).2
  grind
theorem ud {loc:Nat}:∀{l:List cQ} {m m':LM},kL loc l m=some m'->m'.length+l.length=m.length
 | [],m,m',h=>by cases h;rfl
 | id::l,m,m',h=>by
  have h':(bif (fB m id.ints).isSome then(bif bM ((fB m id.ints).getD 0) (.ofNat loc) then kL loc l (kF m id.ints) else none) else none)=some m':=h;cases b:(fB m id.ints).isSome with
  | false=>rw[b] at h';cases h'
  | true=>
   rw[b] at h';cases he:bM ((fB m id.ints).getD 0) (.ofNat loc) with
   | false=>rw[he] at h';cases h'
   | true=>
    rw[he] at h';have h1:=ud (l:=l) h';have h2:=As b;rw[List.length_cons];omega
theorem ue:∀{ls:List (List cQ)} {loc:Nat} {m m':LM},mr ls loc m=some m'->∀l∈ls,l.length<=m.length
 | [],_,_,_,_,l,hl=>by cases hl
 | r::ls,loc,m,m',h,l,hl=>by
  have h':(kL loc r m).bind (mr ls (loc+1))=some m':=h;cases b:kL loc r m with
  | none=>simp_all
  | some m1=>
   rw[b] at h';have h1:=ud b;rcases mQ_.1 hl with rfl | hl
   ·omega
   have:=ue (ls:=ls) h' l hl;omega
theorem Ch {t:Nat} {m:LM} {n:Nat} {e:cU}:(wy t m n e).length<=m.length+1:=by
 unfold wy;cases bH e with
 | false=>simp_all
 | true=>
  show(oS m _ _).length<=_;unfold oS
  grind
theorem uo {t:Nat}:∀{l:List cU} {n:Nat} {m:LM},(qu t l n m).length<=m.length+l.length
 | [],_,_=>nR_ _
 | e::l,n,m=>by
  have h1:=uo (t:=t) (l:=l) (n:=n+1) (m:=wy t m n e);have h2:=Ch (t:=t) (m:=m) (n:=n) (e:=e);show(qu t l (n+1)<|wy t m n e).length<=_;rw[List.length_cons];omega
theorem uq:∀{ls:List (List cU)} {t:Nat} {m:LM},(∀l∈ls,l.length<=14)->(oa ls t m).length<=m.length+14*ls.length
 | [],_,_,_=>by simp[oa]
 | l::ls,t,m,h=>by
  have h1:=uq (ls:=ls) (t:=t+1) (m:=qu t l 0 m) fun x hx=>h x (mC_ _ hx)
  have h2:=uo (t:=t) (l:=l) (n:=0) (m:=m);have h3:=h l (mS_ ..);show(oa ls (t+1)<|qu t l 0 m).length<=_;rw[List.length_cons];omega
theorem sk {g:XG} (h:bY g=0):∀l∈g.order,l.length<=56:=by
 intro l hl;obtain⟨b1,b2,b,b4,b5,b6,d⟩:=fW h;unfold eG at d;cases hc:mr g.order 0 (oa g.threads 0 []) with
 | none=>simp_all
 | some m=>
  have h1:=ue hc l hl;have h2:=uq (ls:=g.threads) (t:=0) (m:=[]) b
  grind
end Go.Ev
namespace Go.Ev
variable [Env]
theorem xq {g:XG}:∀{ts:List (List cU)} {fs:List (List cQ)} {i:Nat},kI g ts fs i=true->fs.length=ts.length->(∀l∈ts,l.length<=14)->∀f∈fs,f.length<=14
 | [],fs,_,_,hl,_,f,hf=>by
  rw[eN_ hl] at hf;cases hf
 | x::ts,[],_,_,hl,_,f,hf=>by cases hf
 | x::ts,y::fs,i,h,hl,hb,f,hf=>by
  have h':(bif bM (.ofNat y.length) (.ofNat x.length) then(bif pf g i x y 0 then kI g ts fs (i+1) else false) else false)=true:=h;cases he:bM (.ofNat y.length) (.ofNat x.length) with
  | false=>rw[he] at h';cases h'
  | true=>
   rw[he] at h';cases b:pf g i x y 0 with
   | false=>rw[b] at h';cases h'
   | true=>
    rw[b] at h';have e1:=cN he;have e2:=hb x (mS_ ..);rcases mQ_.1 hf with rfl | hf
    ·omega
    exact xq (ts:=ts) (fs:=fs) h' (by simpa using hl) (fun l hl=>hb l (mC_ _ hl)) f hf
end Go.Ev
namespace Go.Ev
variable [Env]
theorem IH {g:XG} {th pl:Int} {e:cU} {fr:cQ} (h:bM (bY g) 0=false):ng g th e fr pl=(none,2):=by unfold ng;rw[h];rfl
theorem II {g:XG} {th pl:Int} {e:cU} {fr:cQ} (h:bM (bY g) 0=true) (h1:dy th 1=true):ng g th e fr pl=(none,9):=by unfold ng;rw[h,h1];rfl
theorem IG {g:XG} {th pl:Int} {e:cU} {fr:cQ} (h:bM (bY g) 0=true) (h1:dy th 1=false) (b:dy (.ofNat g.threads.length) th=true):ng g th e fr pl=(none,9):=by unfold ng;rw[h,h1,b];rfl
def ka (g:XG) (e:cU) (pl:Int):Bool:=bif bH e then(bif dy pl 1 then true else dy (.ofNat (ed g e.loc).length) pl) else !bM pl 0
def jM (g:XG) (tm:Nat) (e:cU) (fr:cQ) (pl:Int) (row:List cU) (frow:List cQ):XG:=Jt g tm e fr (pl.toNat-1) row frow ((g.order[e.loc.toNat]?).getD []) e.loc.toNat
theorem LS {g:XG} {tm:Nat} {pl:Int} {e:cU} {fr:cQ} {row:List cU} {frow:List cQ} (h:bM (bY g) 0=true) (hx:g.threads[tm]? =some row) (hf:g.from_[tm]? =some frow):
  ng g (.ofNat (tm+1)) e fr pl=bif !dy (.ofNat row.length) 14 then(none,3) else bif ka g e pl then(none,2) else bif bM (bY<|jM g tm e fr pl row frow) 0 then(some<|jM g tm e fr pl row frow,0) else(none,2):=by
 have aa:tm<g.threads.length:=(gA.1 hx).1;have h1:dy (.ofNat (tm+1)) 1=false:=by rw[show(1:Int)= .ofNat 1 from Z,gM];simp
 have b:dy (.ofNat g.threads.length) (.ofNat (tm+1))=false:=by rw[gM];simp;omega
 have e1:(Int.ofNat (tm+1)).toNat-1=tm:=rfl;unfold ng;rw[h,h1,b];simp only[Bool.not_true,cond_false,e1,hx,hf];rfl
end Go.Ev
namespace Go.Ev
variable [Env]
theorem Fy {g:XG} {loc:Int} (h:1<=(ed g loc).length):∃(ln:Nat) (r:List cQ),loc= .ofNat ln/\g.order[ln]? =some r/\(ed g loc).length=r.length+1:=by
 cases hc:bM (bY g) 0 with
 | false=>rw[Bh hc] at h;cases h
 | true=>
  cases hl:dy loc 0 with
  | true=>rw[Dr hl] at h;cases h
  | false=>
   obtain⟨ln,rfl⟩:=nv hl;cases b:g.order[ln]? with
   | none=>
    grind [Dq]
   | some r=>exact⟨ln,r,Z,b,by rw[gG hc b];rfl⟩
section
variable {V V0:N} {K:KP} {L M:Own}
theorem St.vu (h0:St V0 K (M++L)) (h:St V (K.ml M) L):St V K (M++L) where
 kept b o hb:=by
  obtain⟨h1,d,m⟩:=h.kept b o (.inl hb);refine⟨h1,d,fun e he=>?_⟩;rcases List.mem_append.1 he with he | he
  ·exact(h0.kept b o hb).2.2 e (List.mem_append_left _ he)
  exact m e he
 own e he:=by
  rcases List.mem_append.1 he with he | he
  ·exact⟨(h.kept e.1 e.2 (.inr he)).1,(h.kept e.1 e.2 (.inr he)).2.1⟩
  exact h.own e he
 ne:=h0.ne
end
end Go.Ev
namespace Go.Ev
variable [Env]
inductive oh:Own->Own->Own->Prop
 | base {L:Own}:oh L [] L
 | there {x:Nat×cu} {LL M L:Own}:oh LL M L->oh (x::LL) (x::M) L
 | gX {A LL M L:Own}:oh LL M L->oh (A++LL) (A++M) L
theorem oh.eq {LL M L:Own} (h:oh LL M L):LL=M++L:=by
 induction h with
 | base=>rfl
 | there _ ih=>rw[ih];rfl
 | gX _ ih=>simp_all
theorem St.app {V:N} {K:KP} {LL M L:Own} (h:St V K LL) (b:oh LL M L):St V K (M++L):=by rw[<-b.eq];exact h
theorem Ml {g:XG} {tm ln pm:Nat} {e:cU} {fr:cQ} {row:List cU} {frow orow:List cQ} (hw:bH e=true) (hl:e.loc= .ofNat ln) (ho:g.order[ln]? =some orow):
  jM g tm e fr (.ofNat (pm+1)) row frow= {init:=g.init,threads:=g.threads.set tm (row++[e]),from_:=g.from_.set tm (frow++[fr]),order:=g.order.set ln (orow.take pm++⟨.ofNat (tm+1),.ofNat row.length⟩::orow.drop pm)}:=by
 have e1:(Int.ofNat (pm+1)).toNat-1=pm:=rfl;have e2:(Int.ofNat ln).toNat=ln:=rfl;unfold jM Jt
 simp_all
section
variable {P:Program} {G:Cx} {ev:Operand->Option J} {V:N} {K:KP} {L:Own}
theorem vz {t:TypeId} {x i:Operand} {s:List Nat} {n c:Nat} {k:IntKind} (b:P.underlying t=some .string) (hx:ev x=some (.str s)) (hi:ev i=some (.int k (.ofNat n))) (hc:s[n]? =some c):dM P G ev V (.index t x i)= .val (.int .u8 (.ofNat c)) V:=by
 refine bD Z ?_;simp only[du,b,hx,hi,eU,hc]
theorem kr {t e n m j off:Nat} {b:Pos} {x i:Operand} {k:IntKind} (d:P.underlying t=some (.array n e)) (hj:(P.info? e).map (·.size)=some m) (hx:ev x=some (.ptr b off)) (hi:ev i=some (.int k (.ofNat j))) (A:j<n):dM P G ev V (.indexAddr t x i)= .val (.ptr b (off+j*m)) V:=by
 refine bD Z ?_;obtain⟨q,hq,rfl⟩:=oM_.1 hj;simp only[du,d,hx,hi,hq,show Nat.ble (Nat.succ j) n=true by rw[nE_];exact A,cond_true]
theorem sP {x:Operand} {b:Pos} {off:Nat} (hx:ev x=some (.ptr b off)):dM P G ev V (.nilCheck x)= .val (.ptr b off) V:=bD Z (by simp only[du,hx])
theorem MC {α:Type} {f:α->J} {l:List α} {i off:Nat} {x:α} (h:l[i]? =some x) (b:off=i):nth (l.map f) off=some (f x):=by
 subst b;rw[eU,gM_,h];rfl
theorem fZ {α:Type} {f:α->J} {l:List α} {i off:Nat} {v:α} (h:i<l.length) (ho:off=i):dB [f v] (l.map f) off=(l.set i v).map f:=by
 grind [iK,List.map_set]
theorem xE {α:Type} {f:α->J} (v:α) (n:Nat):ec [f v] n=(List.replicate n v).map f:=by rw[jR,List.map_replicate]
end
def mI {α:Type} (m E:Nat) (R:α->List J->Prop) (l:List α) (u:J) (M:Own):Prop:=
 (l= []/\u= .au/\M= [])∨∃(b:Nat) (c:nL) (cells:List J) (e:Nat),u= .slice b 0 l.length c/\M= [(b,.row cells e false)]/\l.length*m<=cells.length/\(∀(i:Nat) (x:α),l[i]? =some x->R x ((cells.drop (i*m)).take m))/\((∃n,c= .known n/\l.length<=n/\n*m<=cells.length)∨(c= .upto m/\e=E))/\l.length<=1048576
section
variable {α:Type} {m E:Nat} {R:α->List J->Prop} {l:List α} {u:J} {M:Own} {K:KP}
theorem mI.gS (h:mI m E R l u M) (hk:∀e∈M,K e.1 e.2):bG K m R l u:=by
 rcases h with ⟨h1,d,_⟩ | ⟨b,c,cells,e,rfl,rfl,h3,h4,h5,h6⟩
 ·exact .inl ⟨h1,d⟩
 refine .inr ⟨b,0,c,cells,e,false,Z,?_,hk _<|mS_ ..,by omega,by omega,fun i x hx=>by simp_all⟩;rcases h5 with ⟨n,h5,A,_⟩ | h5
 ·exact .inr ⟨_,h5,A⟩
 exact .inl h5.1
theorem mI.take (h:mI m E R l u M) {P:Program} {ev:Operand->Option J} {t:TypeId} {x hi:Operand} {kk:IntKind} {k:Nat} (hk:k<=l.length) (hu:P.underlying t=some (.slice E)) (hj:(P.info? E).map (·.size)=some m) (hx:ev x=some u) (hh:ev hi=some (.int kk (.ofNat k))):
  ∃u',fy P ev t x none (some hi) none=some u'/\mI m E R (l.take k) u' M:=by
 obtain⟨j,d,rfl⟩:=oM_.1 hj;rcases h with ⟨rfl,rfl,rfl⟩ | ⟨b,c,cells,e,rfl,rfl,C,h4,h5,h6⟩
 ·obtain rfl:k=0:=by simpa using hk
  refine⟨.au,?_,.inl ⟨Z,Z,Z⟩⟩;have:cO ev 0 0 none (some hi)=some (0,0):=sX hh (nR_ _);simp only[fy,hu,hx,d,this]
 have hl:(l.take k).length=k:=by simp_all
 have A:∀(i:Nat) (x:α),(l.take k)[i]? =some x->R x ((cells.drop (i*j.size)).take j.size):=fun i x hi=>by
  grind
 have hle:k*j.size<=cells.length:=Nat.le_trans (nM_ _ hk) C;rcases h5 with ⟨n,rfl,h7,F⟩ | ⟨rfl,rfl⟩
 ·refine⟨.slice b 0 k (.known n),?_,.inr ⟨b,.known n,cells,e,by rw[hl],Z,by rw[hl];exact hle,A,.inl ⟨n,Z,by rw[hl];omega,F⟩,by rw[hl];omega⟩⟩;have:cO ev l.length n none (some hi)=some (0,k):=sX hh oM;simp only[fy,hu,hx,cutAt,this,cut,d]
  simp_all
 refine⟨.slice b 0 k (.upto j.size),?_,.inr ⟨b,.upto j.size,cells,e,by rw[hl],Z,by rw[hl];exact hle,A,.inr ⟨Z,Z⟩,by rw[hl];omega⟩⟩;have:cO ev l.length l.length none (some hi)=some (0,k):=sX hh hk;simp only[fy,hu,hx,this,d,show Nat.beq j.size j.size=true from Nat.beq_refl _,cond_true,Nat.zero_mul,Nat.sub_zero,Nat.add_zero]
end
section
variable {α:Type} {m E:Nat} {R:α->List J->Prop}
theorem yi {l l2:List α} {cells news Zv:List J} (hl:l.length*m<=cells.length) (h1:∀(i:Nat) (x:α),l[i]? =some x->R x ((cells.drop (i*m)).take m)) (hn:news.length=l2.length*m) (d:∀(i:Nat) (x:α),l2[i]? =some x->R x ((news.drop (i*m)).take m)):
  ∀(i:Nat) (x:α),(l++l2)[i]? =some x->R x (((cells.take (l.length*m)++(news++Zv)).drop (i*m)).take m):=by
 intro i x hx;have A:(cells.take (l.length*m)).length=l.length*m:=by simp_all
 by_cases hi:i<l.length
 ·rw[gL_ hi] at hx;have hle:(i+1)*m<=l.length*m:=nM_ _ hi
  grind [List.drop_take]
 rw[gR_ oM] at hx;have hlt:=(gA.1 hx).1;have hle:l.length*m<=i*m:=nM_ _ oM;have b:(i-l.length+1)*m<=l2.length*m:=nM_ _ hlt;rw[Nat.succ_mul] at b;rw[List.drop_append,List.drop_eq_nil_of_le oM,List.nil_append,A,<-Nat.sub_mul,List.drop_append_of_le_length oM,List.take_append_of_le_length (by grind)];exact d _ x hx
section
variable {P:Program} {K:KP} {L:Own}
end
end
abbrev Rn:=Nat->Nat->Bool
def NL:Nat->(Nat->Bool)->Nat
 | 0,_=>0
 | n+1,p=>NL n p ||| (bif p n then 2 ^ n else 0)
section
variable {P:Program} {k:Bool} {ty:TypeId}
theorem PB {x:Nat} (h:x<2 ^ 64):IntKind.u64.wrap ((x:Nat):Int)= .ofNat x:=by
 unfold IntKind.wrap;show(let m:=((x:Nat):Int)%(2 ^ 64:Int);if false && _ then _ else m)=_;simp only[Bool.false_and,Bool.false_eq_true,if_false];show((x:Nat):Int)%((2 ^ 64:Nat):Int)=((x:Nat):Int);rw[<-Int.natCast_emod,Nat.mod_eq_of_lt h]
theorem NA {x:Nat} (h:x<2 ^ 64):wr .u64 (.ofNat x)= .ofNat x:=by
 unfold wr;cases OI .u64 (.ofNat x) with
 | true=>rfl
 | false=>exact PB h
end
def gU (x:Nat):J:=.int .u64 (.ofNat x)
def RU (x:Nat) (vs:List J):Prop:=vs= [gU x]
def QM (n:Nat) (R:Rn):List Nat:=(List.range n).map fun i=>NL n (R i)
def Rw (K:KP) (n:Nat) (R:Rn) (vs:List J):Prop:=∃v,vs= [.int .i64 (.ofNat n),v]/\bG K 1 RU (QM n R) v
theorem Rw.mono {K K':KP} {n:Nat} {R:Rn} {vs:List J} (h:Rw K n R vs) (hk:KP.le K K'):Rw K' n R vs:=let ⟨v,h1,b⟩:=h;⟨v,h1,b.mono hk fun _ _ h=>h⟩
inductive Tc (n:Nat) (R:Rn):Nat->Nat->Prop where
 | one {i j:Nat} (hi:i<n) (hj:j<n) (h:R i j=true):Tc n R i j
 | step {i j k:Nat} (h1:Tc n R i j) (h2:Tc n R j k):Tc n R i k
open Classical in
def IB (n:Nat) (R:Rn):Rn:=fun i j=>decide (Tc n R i j)
theorem GS {n:Nat} {R:Rn} {i j:Nat}:IB n R i j=true↔Tc n R i j:=by unfold IB;simp
theorem Tc.lt {n:Nat} {R:Rn} {i j:Nat} (h:Tc n R i j):i<n/\j<n:=by
 induction h with
 | one hi hj _=>exact⟨hi,hj⟩
 | step _ _ h1 b=>exact⟨h1.1,b.2⟩
theorem Tc.Pb {n:Nat} {R:Rn} {f:Nat->Nat} (hf:∀i j,i<n->j<n->R i j=true->f i<f j) {i j:Nat} (h:Tc n R i j):f i<f j:=by
 induction h with
 | one hi hj h=>exact hf _ _ hi hj h
 | step _ _ h1 b=>exact Nat.lt_trans h1 b
def Rq (n:Nat) (R:Rn):Rn:=fun i k=>R i k || (List.range n).any fun j=>R i j && R j k
theorem Pl {n:Nat} {R:Rn} {i k:Nat} (h:R i k=true):Rq n R i k=true:=by unfold Rq;simp[h]
structure PR (n:Nat) (R S_:Rn):Prop where
 low:∀i j,i<n->j<n->R i j=true->S_ i j=true
 high:∀i j,i<n->j<n->S_ i j=true->Tc n R i j
theorem PR.refl (n:Nat) (R:Rn):PR n R R:=⟨fun _ _ _ _ h=>h,fun _ _ hi hj h=>.one hi hj h⟩
theorem PR.sq {n:Nat} {R S_:Rn} (h:PR n R S_):PR n R (Rq n S_):=by
 refine⟨fun i j hi hj d=>Pl (h.low i j hi hj d),fun i k hi hk b=>?_⟩;unfold Rq at b;simp only[Bool.or_eq_true,List.any_eq_true,List.mem_range,bA_] at b;rcases b with b | ⟨j,hj,h1,m⟩
 ·exact h.high i k hi hk b
 exact .step (h.high i j hi hj h1)<|h.high j k hj hk m
section
variable {P:Program} {G:Cx} {ev:Operand->Option J} {V:N}
end
section
variable {P:Program} {G:Cx} {n i:Nat} {V:N} {Q:Ex->PT J->N->Prop} {ops:Array Oper} {t:PT J} {o:Oper} {K:KP}
end
def RP (p:Nat×Nat) (vs:List J):Prop:=vs= [.int .i64 (.ofNat p.1),.int .i64 (.ofNat p.2)]
theorem RP.leaf:∀x vs,RP x vs->bO vs=true:=fun _ _ h=>by cases h;rfl
def RY (l:List (Nat×Nat)):Rn:=fun a b=>l.any fun p=>p.1 == a && p.2 == b
def Rf (l:List Rn):Rn:=fun a b=>l.any fun R=>R a b
section
variable {n i j k:Nat} {S_ R A B_:Rn} {l:List Rn}
end
theorem JQ (x:Int):dy x x=false:=by
 cases x with
 | ofNat n=>rw[gM];simp
 | negSucc n=>
  cases h:dy (.negSucc n) (.negSucc n) with
  | false=>rfl
  | true=>
   have:Nat.blt n n=true:=h
   simp_all
theorem pM (x:Int):eK x x=0:=by unfold eK;rw[JQ];rfl
theorem jJ {α:Type} {c:α->α->Int} (h:∀x,c x x=0):∀l,dS c l l=0
 | []=>rfl
 | x::l=>by
  show(bif bM (c x x) 0 then dS c l l else c x x)=0;rw[h x];exact jJ h l
theorem oH:∀(l:List Int),(∀x∈l,x=0)->Bj l=0
 | [],_=>rfl
 | x::l,h=>by
  show(bif bM x 0 then Bj l else x)=0;rw[h x<|mS_ ..];exact oH l fun y hy=>h y (mC_ _ hy)
theorem Ec (x:cQ):ou x x=0:=oH _ fun y hy=>by simp only[pM,mQ_,List.not_mem_nil,or_false,or_self] at hy;exact hy
theorem Eb (x:cU):nO x x=0:=oH _ fun y hy=>by simp only[pM,mQ_,List.not_mem_nil,or_false,or_self] at hy;exact hy
theorem ox {α:Type} (l:List α):iC l l=0:=pM _
theorem BI (l:List cQ):iB l l=0:=oH _ fun y hy=>by simp only[ox,jJ Ec,mQ_,List.not_mem_nil,or_false,or_self] at hy;exact hy
theorem Hh (g:XG):dQ g g=0:=oH _ fun y hy=>by
 simp only[ox,jJ BI,jJ (c:=iC) ox,jJ<|jJ Eb,jJ pM,mQ_,List.not_mem_nil,or_false,or_self] at hy;exact hy
theorem Hq {g:XG} {i:Nat}:ez g ⟨.ofNat 0,.ofNat i⟩=(g.init[i]?).map fun v=>⟨2,i,1,0,v⟩:=rfl
theorem jf {g:XG} {t i:Nat}:ez g ⟨.ofNat (t+1),.ofNat i⟩=(g.threads[t]?).bind (·[i]?):=rfl
theorem Jg {g g':XG} {tm:Nat} {row:List cU} {e w:cU} {id:cQ} (hr:g.threads[tm]? =some row) (hi:g'.init=g.init) (ht:g'.threads=g.threads.set tm (row++[e])) (h:ez g id=some w):ez g' id=some w:=by
 obtain⟨th,ix⟩:=id;cases ix with
 | negSucc k=>rw[pQ (by rw[eM];simp)] at h;cases h
 | ofNat i=>
  cases th with
  | negSucc k=>rw[s9 (by rw[eM];simp)] at h;cases h
  | ofNat t=>
   cases t with
   | zero=>rw[Hq] at h⊢;rw[hi];exact h
   | succ t=>
    rw[jf] at h⊢
    grind
theorem Jf {g g':XG} {tm:Nat} {row:List cU} {e:cU} (d:g.threads[tm]? =some row) (m:g'.threads=g.threads.set tm (row++[e])):ez g' ⟨.ofNat (tm+1),.ofNat row.length⟩=some e:=by
 have b:tm<g.threads.length:=(gA.1 d).1;rw[jf,m,List.getElem?_set,if_pos Z,if_pos b]
 simp_all
def fD (t:Nat):List cU->Nat->LM
 | [],_=>[]
 | e::l,n=>bif bH e then([.ofNat (t+1),.ofNat n],e.loc)::fD t l (n+1) else fD t l (n+1)
def fU:List (List cU)->Nat->LM
 | [],_=>[]
 | l::r,t=>fD t l 0++fU r (t+1)
theorem yT {k:List Int}:∀{m:LM} {i:Nat},(∀p∈m,p.1≠k)->oQ m k i=none
 | [],_,_=>rfl
 | (k',v)::m,i,h=>by
  show(bif bW k k' then some (i,v) else oQ m k (i+1))=none
  have:bW k k'=false:=by
   cases hh:bW k k' with
   | false=>rfl
   | true=>exact absurd (bR.1 hh).symm (h (k',v)<|mS_ ..)
  rw[this];exact yT fun p hp=>h p (mC_ _ hp)
theorem wz {t:Nat}:∀{l:List cU} {n:Nat} {m:LM},(∀p∈m,∀k,n<=k->p.1≠[.ofNat (t+1),.ofNat k])->qu t l n m=m++fD t l n
 | [],_,m,_=>by simp[qu,fD]
 | e::l,n,m,h=>by
  show qu t l (n+1) (wy t m n e)=m++(bif bH e then _ else _);unfold wy;cases hw:bH e with
  | false=>exact wz fun p hp k hk=>h p hp k oM
  | true=>
   show qu t l (n+1) (oS m [.ofNat (t+1),.ofNat n] e.loc)=m++_
   have hp:oS m [.ofNat (t+1),.ofNat n] e.loc=m++[([.ofNat (t+1),.ofNat n],e.loc)]:=by
    unfold oS;rw[yT fun p hp=>h p hp n (nR_ _)]
   rw[hp,wz (l:=l) (n:=n+1) fun p hp k hk=>?_,lQ_]
   ·rfl
   grind
theorem kX {t:Nat}:∀{l:List cU} {n:Nat},∀p∈fD t l n,∃k,p.1= [.ofNat (t+1),.ofNat k]/\n<=k
 | [],_,p,h=>by cases h
 | e::l,n,p,h=>by
  have h':p∈(bif bH e then([.ofNat (t+1),.ofNat n],e.loc)::fD t l (n+1) else fD t l (n+1)):=h;cases hw:bH e with
  | false=>
   rw[hw] at h';obtain⟨k,h1,b⟩:=kX (l:=l) p h';exact⟨k,h1,by omega⟩
  | true=>
   rw[hw] at h';rcases mQ_.1 h' with rfl | h'
   ·exact⟨n,Z,nR_ _⟩
   obtain⟨k,h1,b⟩:=kX (l:=l) p h';exact⟨k,h1,by omega⟩
theorem Ci:∀{ls:List (List cU)} {t:Nat} {m:LM},(∀p∈m,∀s k,t<=s->p.1≠[.ofNat (s+1),.ofNat k])->oa ls t m=m++fU ls t
 | [],_,m,_=>by simp[oa,fU]
 | l::ls,t,m,h=>by
  show oa ls (t+1) (qu t l 0 m)=m++(fD t l 0++fU ls (t+1));rw[wz fun p hp k _=>h p hp t k (nR_ _),Ci (ls:=ls) (t:=t+1) fun p hp s k hs=>?_,lQ_];rcases List.mem_append.1 hp with hp | hp
  ·grind
  obtain⟨k',h1,_⟩:=kX p hp
  grind
theorem uu {ls:List (List cU)}:oa ls 0 []=fU ls 0:=by
 rw[Ci fun p hp=>by cases hp];rfl
def eH (loc:Nat) (l:List cQ):LM:=l.map fun id=>(id.ints,.ofNat loc)
def ij:List (List cQ)->Nat->LM
 | [],_=>[]
 | r::ls,loc=>eH loc r++ij ls (loc+1)
theorem jU {α:Type}:∀{m:List α} {j:Nat} {x:α},m[j]? =some x->m.Perm (x::m.eraseIdx j)
 | [],_,_,h=>by simp at h
 | y::m,0,x,h=>by
  have:y=x:=by simpa using h
  subst this;exact List.Perm.refl _
 | y::m,j+1,x,h=>by
  have h':m[j]? =some x:=by simpa using h
  exact(List.Perm.cons y<|jU h').trans (List.Perm.swap x y _)
theorem wH {m:LM} {k:List Int} {v:Int} (h:fB m k=some v):m.Perm ((k,v)::kF m k):=by
 unfold fB at h;unfold kF;cases b:oQ m k 0 with
 | none=>rw[b] at h;cases h
 | some p=>
  obtain⟨j,w⟩:=p;rw[b] at h;have hw:w=v:=by simpa using h
  subst hw;exact jU (pY b).2
theorem yl {loc:Nat}:∀{l:List cQ} {m m':LM},kL loc l m=some m'->m.Perm (eH loc l++m')
 | [],m,m',h=>by cases h;exact List.Perm.refl _
 | id::l,m,m',h=>by
  have h':(bif (fB m id.ints).isSome then(bif bM ((fB m id.ints).getD 0) (.ofNat loc) then kL loc l (kF m id.ints) else none) else none)=some m':=h;cases b:fB m id.ints with
  | none=>rw[b] at h';cases h'
  | some v=>
   rw[b] at h';have h'':(bif bM v (.ofNat loc) then kL loc l (kF m id.ints) else none)=some m':=h';cases he:bM v (.ofNat loc) with
   | false=>rw[he] at h'';cases h''
   | true=>
    rw[he] at h'';rw[dv] at he;have hv:v= .ofNat loc:=of_decide_eq_true he;subst hv;exact(wH b).trans (List.Perm.cons _<|yl (l:=l) h'')
theorem yq:∀{ls:List (List cQ)} {loc:Nat} {m m':LM},mr ls loc m=some m'->m.Perm (ij ls loc++m')
 | [],_,m,m',h=>by cases h;exact List.Perm.refl _
 | r::ls,loc,m,m',h=>by
  have h':(kL loc r m).bind (mr ls (loc+1))=some m':=h;cases b:kL loc r m with
  | none=>rw[b] at h';cases h'
  | some m1=>
   rw[b] at h';refine(yl b).trans ?_;show(eH loc r++m1).Perm ((eH loc r++ij ls (loc+1))++m');rw[lQ_];exact List.Perm.append_left _<|yq (ls:=ls) h'
theorem EO {g:XG} (h:eG g=true):(fU g.threads 0).Perm (ij g.order 0):=by
 unfold eG at h;cases hc:mr g.order 0 (oa g.threads 0 []) with
 | none=>rw[hc] at h;cases h
 | some m=>
  rw[hc] at h
  have h0:m= []:=by
   have h1:bM (.ofNat m.length) (.ofNat 0)=true:=h;rw[fN] at h1
   simp_all
  have:=yq hc;rw[h0,List.append_nil,uu] at this;exact this
theorem Cl {k:List Int} {v:Int}:∀{m:LM} {i:Nat},(m.map (·.1)).Nodup->(k,v)∈m->∃j,oQ m k i=some (j,v)
 | (k',w)::m,i,b,h=>by
  rw[List.map_cons,List.nodup_cons] at b;show∃j,(bif bW k k' then some (i,w) else oQ m k (i+1))=some (j,v);rcases mQ_.1 h with h1 | h1
  ·cases h1;rw[bR.2 Z];exact⟨i,Z⟩
  have:bW k k'=false:=by
   cases hh:bW k k' with
   | false=>rfl
   | true=>
    have e:=bR.1 hh
    simp_all
  rw[this];exact Cl (m:=m) b.2 h1
theorem FF {loc:Nat}:∀{l:List cQ} {m rest:LM},m.Perm (eH loc l++rest)->(m.map (·.1)).Nodup->∃m',kL loc l m=some m'/\m'.Perm rest/\(m'.map (·.1)).Nodup
 | [],m,rest,h,d=>⟨m,Z,h,d⟩
 | id::l,m,rest,h,d=>by
  have b:(id.ints,Int.ofNat loc)∈m:=h.mem_iff.2 (mS_ ..);obtain⟨j,hj⟩:=Cl (i:=0) d b;have C:fB m id.ints=some (.ofNat loc):=by unfold fB;rw[hj];rfl
  have hp:=wH C;have u:(kF m id.ints).Perm (eH loc l++rest):=List.Perm.cons_inv (hp.symm.trans h)
  have A:((kF m id.ints).map (·.1)).Nodup:=by
   have:=(hp.map (·.1)).nodup_iff.1 d
   rw[List.map_cons,List.nodup_cons] at this;exact this.2
  obtain⟨m',h1,E,F⟩:=FF (l:=l) u A;refine⟨m',?_,E,F⟩;show(bif (fB m id.ints).isSome then(bif bM ((fB m id.ints).getD 0) (.ofNat loc) then kL loc l (kF m id.ints) else none) else none)=some m';have he:bM (.ofNat loc) (.ofNat loc)=true:=by rw[fN];simp
  rw[C];show(bif bM (.ofNat loc) (.ofNat loc) then kL loc l (kF m id.ints) else none)=some m';rw[he];exact h1
theorem FG:∀{ls:List (List cQ)} {loc:Nat} {m:LM},m.Perm (ij ls loc)->(m.map (·.1)).Nodup->mr ls loc m=some []
 | [],_,m,h,_=>by rw[show m= [] from h.eq_nil];rfl
 | r::ls,loc,m,h,b=>by
  obtain⟨m',h1,d,u⟩:=FF (l:=r) (rest:=ij ls (loc+1)) h b;show(kL loc r m).bind (mr ls (loc+1))=some [];rw[h1];exact FG (ls:=ls) d u
theorem pB {t:Nat}:∀{l:List cU} {n:Nat},((fD t l n).map (·.1)).Nodup
 | [],_=>List.nodup_nil
 | e::l,n=>by
  show((bif bH e then([.ofNat (t+1),.ofNat n],e.loc)::fD t l (n+1) else fD t l (n+1):LM).map (·.1)).Nodup
  cases bH e with
  | false=>exact pB (l:=l)
  | true=>
   show(([Int.ofNat (t+1),Int.ofNat n],e.loc).1::(fD t l (n+1)).map (·.1)).Nodup
   rw[List.nodup_cons];refine⟨fun h=>?_,pB (l:=l)⟩;obtain⟨p,hp,he⟩:=List.mem_map.1 h;obtain⟨k,h1,h2⟩:=kX p hp
   grind
theorem zx:∀{ls:List (List cU)} {t:Nat},∀p∈fU ls t,∃s k,p.1= [.ofNat (s+1),.ofNat k]/\t<=s
 | [],_,p,h=>by cases h
 | l::ls,t,p,h=>by
  have h':p∈fD t l 0++fU ls (t+1):=h;rcases List.mem_append.1 h' with h' | h'
  ·obtain⟨k,h1,_⟩:=kX p h';exact⟨t,k,h1,nR_ _⟩
  obtain⟨s,k,h1,h2⟩:=zx (ls:=ls) p h';exact⟨s,k,h1,by omega⟩
theorem pA:∀{ls:List (List cU)} {t:Nat},((fU ls t).map (·.1)).Nodup
 | [],_=>List.nodup_nil
 | l::ls,t=>by
  show((fD t l 0++fU ls (t+1)).map (·.1)).Nodup
  rw[List.map_append,List.nodup_append];refine⟨pB,pA (ls:=ls),fun a d b hb aa=>?_⟩;obtain⟨p,hp,rfl⟩:=List.mem_map.1 d;obtain⟨q,hq,rfl⟩:=List.mem_map.1 hb;obtain⟨k,h1,_⟩:=kX p hp;obtain⟨s,k',h3,h4⟩:=zx q hq
  grind
theorem pd {g:XG}:eG g=true↔(fU g.threads 0).Perm (ij g.order 0):=by
 refine⟨EO,fun h=>?_⟩;unfold eG;rw[uu,FG h pA];rfl
theorem su {g:XG} {t:Nat}:∀{l:List cU} {f:List cQ} {n:Nat},f.length=l.length->(pf g t l f n=true↔∀i e q,l[i]? =some e->f[i]? =some q->xO g t (n+i) e q=true)
 | [],f,n,h=>⟨fun _ i e q h1=>by simp at h1,fun _=>Z⟩
 | x::l,[],n,h=>by cases h
 | x::l,y::f,n,h=>by
  have hl:f.length=l.length:=by simpa using h
  show(bif xO g t n x y then pf g t l f (n+1) else false)=true↔_;constructor
  ·intro hh i e q h1 b;cases d:xO g t n x y with
   | false=>rw[d] at hh;cases hh
   | true=>
    rw[d] at hh;cases i with
    | zero=>
     have e1:x=e:=by simpa using h1
     have e2:y=q:=by simpa using b
     subst e1 e2;exact d
    | succ i=>
     have:=(su hl).1 hh i e q (by simpa using h1) (by simpa using b);rwa[show n+1+i=n+(i+1) by omega] at this
  intro hh;rw[show xO g t n x y=true from hh 0 x y Z Z];refine(su hl).2 fun i e q h1 b=>?_
  have:=hh (i+1) e q (by simpa using h1) (by simpa using b);rwa[show n+(i+1)=n+1+i by omega] at this
theorem qe {g:XG}:∀{ls:List (List cU)} {fs:List (List cQ)} {t:Nat},fs.length=ls.length->(kI g ls fs t=true↔∀i l f,ls[i]? =some l->fs[i]? =some f->f.length=l.length/\∀j e q,l[j]? =some e->f[j]? =some q->xO g (t+i) j e q=true)
 | [],f,n,h=>⟨fun _ i e q h1=>by simp at h1,fun _=>Z⟩
 | x::l,[],n,h=>by cases h
 | x::l,y::f,t,h=>by
  have hl:f.length=l.length:=by simpa using h
  show(bif bM (.ofNat y.length) (.ofNat x.length) then(bif pf g t x y 0 then kI g l f (t+1) else false) else false)=true↔_;constructor
  ·intro hh i e q h1 m;cases he:bM (.ofNat y.length) (.ofNat x.length) with
   | false=>rw[he] at hh;cases hh
   | true=>
    rw[he] at hh;cases u:pf g t x y 0 with
    | false=>rw[u] at hh;cases hh
    | true=>
     rw[u] at hh;cases i with
     | zero=>
      have e1:x=e:=by simpa using h1
      have e2:y=q:=by simpa using m
      subst e1 e2;refine⟨cN he,fun j w z b d=>?_⟩;have:=(su<|cN he).1 u j w z b d;rwa[nA_] at this
     | succ i=>
      have:=(qe hl).1 hh i e q (by simpa using h1) (by simpa using m);rwa[show t+1+i=t+(i+1) by omega] at this
  intro hh;obtain⟨h1,m⟩:=hh 0 x y Z Z;rw[show bM (.ofNat y.length) (.ofNat x.length)=true by rw[fN];simp[h1]];rw[show pf g t x y 0=true from(su h1).2 fun i e q b d=>by have:=m i e q b d;rwa[nA_]];refine(qe hl).2 fun i e q b d=>?_
  have:=hh (i+1) e q (by simpa using b) (by simpa using d);rwa[show t+(i+1)=t+1+i by omega] at this
structure eb (g:XG):Prop where
 threads:g.threads.length<=4
 init:g.init.length<=6
 short:∀(i:Nat) (l:List cU),g.threads[i]? =some l->l.length<=14
 from_:g.from_.length=g.threads.length
 order:g.order.length=g.init.length
 rows:∀(i:Nat) (l:List cU) (f:List cQ),g.threads[i]? =some l->g.from_[i]? =some f->f.length=l.length/\∀(j:Nat) (e:cU) (q:cQ),l[j]? =some e->f[j]? =some q->xO g i j e q=true
 perm:(fU g.threads 0).Perm (ij g.order 0)
theorem ei {g:XG}:bY g=0↔eb g:=by
 constructor
 ·intro h;obtain⟨u,A,C,m,E,F,G⟩:=fW h;refine⟨u,A,fun i l hl=>C l (gB_ hl),m,E,fun i l f b d=>?_,pd.1 G⟩;have:=(qe m).1 F i l f b d
  simp_all
 intro h;unfold bY
 have h1:eE g=false:=by
  unfold eE;rw[show dy 4 (.ofNat g.threads.length)=false by rw[show(4:Int)= .ofNat 4 from Z,gM];have:=h.threads;simp;omega];rw[show dy 6 (.ofNat g.init.length)=false by rw[show(6:Int)= .ofNat 6 from Z,gM];have:=h.init;simp;omega];show(g.threads.any fun l=>dy 14 (.ofNat l.length))=false;rw[List.any_eq_false];intro l hl;obtain⟨i,hi⟩:=gO_ hl;have:=h.short i l hi;rw[show(14:Int)= .ofNat 14 from Z,gM];simp;omega
 rw[h1];rw[show bM (.ofNat g.from_.length) (.ofNat g.threads.length)=true by rw[fN];simp[h.from_]];rw[show bM (.ofNat g.order.length) (.ofNat g.init.length)=true by rw[fN];simp[h.order]];rw[show kI g g.threads g.from_ 0=true from(qe h.from_).2 fun i l f b d=>by have:=h.rows i l f b d;rwa[nA_]];rw[pd.2 h.perm];rfl
def HS (o:List (List cQ)) (e:cU) (id:cQ) (pl:Int):List (List cQ):=
 bif bH e then o.set e.loc.toNat (((o[e.loc.toNat]?).getD []).take (pl.toNat-1)++id::((o[e.loc.toNat]?).getD []).drop (pl.toNat-1)) else o
theorem tq {g:XG} {tm:Nat} {e:cU} {fr:cQ} {pl:Int} {row:List cU} {frow:List cQ}:jM g tm e fr pl row frow=⟨g.init,g.threads.set tm (row++[e]),g.from_.set tm (frow++[fr]),HS g.order e ⟨.ofNat (tm+1),.ofNat row.length⟩ pl⟩:=rfl
theorem rT {g:XG} {e:cU} {pl:Int} (h:ka g e pl=false) (hw:bH e=true):∃(ln:Nat) (r:List cQ),e.loc= .ofNat ln/\g.order[ln]? =some r/\(ed g e.loc).length=r.length+1:=by
 unfold ka at h;rw[hw] at h;have h:(bif dy pl 1 then true else dy (.ofNat (ed g e.loc).length) pl)=false:=h;cases h1:dy pl 1 with
 | true=>rw[h1] at h;cases h
 | false=>
  rw[h1] at h;obtain⟨m,rfl⟩:=EW h1;have b:dy (.ofNat (ed g e.loc).length) (.ofNat (m+1))=false:=h;have:=bC b;exact Fy oM
theorem kZ {g a:XG} {th pl:Int} {e:cU} {fr:cQ} (h:ng g th e fr pl=(some a,0)):bY g=0/\∃tm row frow,th= .ofNat (tm+1)/\g.threads[tm]? =some row/\g.from_[tm]? =some frow/\dy (.ofNat row.length) 14=true/\ka g e pl=false/\a=jM g tm e fr pl row frow/\bY a=0:=by
 cases hc:bM (bY g) 0 with
 | false=>rw[IH hc] at h;cases h
 | true=>
  refine⟨NN hc,?_⟩;cases h1:dy th 1 with
  | true=>rw[II hc h1] at h;cases h
  | false=>
   cases A:dy (.ofNat g.threads.length) th with
   | true=>rw[IG hc h1 A] at h;cases h
   | false=>
    obtain⟨tm,rfl⟩:=EW h1;have m:tm<g.threads.length:=by have:=bC A;omega
    obtain⟨row,d⟩:=bZ m;obtain⟨frow,b⟩:=bZ (show tm<g.from_.length by rw[(fW<|NN hc).2.2.2.1];exact m);rw[LS hc d b] at h;cases u:dy (.ofNat row.length) 14 with
    | false=>rw[u] at h;cases h
    | true=>
     rw[u] at h;rcases Bool.eq_false_or_eq_true (ka g e pl) with h4 | h4
     ·rw[h4] at h;cases h
     rw[h4] at h;cases h5:bM (bY<|jM g tm e fr pl row frow) 0 with
     | false=>rw[h5] at h;cases h
     | true=>
      rw[h5] at h;have C:(some<|jM g tm e fr pl row frow,(0:Int))=(some a,0):=h;have E:jM g tm e fr pl row frow=a:=by cases C;rfl
      subst E;exact⟨tm,row,frow,Z,d,b,u,h4,Z,NN h5⟩
theorem Gh {o:List (List cQ)} {e:cU} {id:cQ} {pl:Int} {k:Nat} (h:bH e=true->e.loc.toNat≠k):(HS o e id pl)[k]? =o[k]?:=by
 grind [HS]
theorem ey (x:Int):bM x x=true:=by rw[dv];simp
theorem iD (x y:Int):(x<y/\eK x y= -1)∨(x=y/\eK x y=0)∨(y<x/\eK x y=1):=by
 grind [eK,eM]
structure yg {α:Type} (c:α->α->Int):Prop where
 oi:∀x y,c y x= -c x y
 small:∀x y,-1<=c x y/\c x y<=1
 trans:∀x y z,c x y<=0->c y z<=0->c x z<=0
theorem sl:yg eK where
 oi x y:=by rcases iD x y with ⟨h,e⟩ | ⟨h,e⟩ | ⟨h,e⟩<;>rcases iD y x with ⟨h',e'⟩ | ⟨h',e'⟩ | ⟨h',e'⟩<;>omega
 small x y:=by rcases iD x y with ⟨h,e⟩ | ⟨h,e⟩ | ⟨h,e⟩<;>omega
 trans x y z:=by rcases iD x y with ⟨h,e⟩ | ⟨h,e⟩ | ⟨h,e⟩<;>rcases iD y z with ⟨h',e'⟩ | ⟨h',e'⟩ | ⟨h',e'⟩<;>rcases iD x z with ⟨b,e2⟩ | ⟨b,e2⟩ | ⟨b,e2⟩<;>omega
theorem yg.pull {α β:Type} {c:α->α->Int} (h:yg c) (f:β->α):yg fun x y=>c (f x) (f y):=⟨fun x y=>h.oi _ _,fun x y=>h.small _ _,fun x y z=>h.trans _ _ _⟩
theorem x7 (a b:Int):(bif bM a 0 then b else a)=if a=0 then b else a:=by
 rw[dv]
 simp_all
theorem yg.lex {α:Type} {c d:α->α->Int} (hc:yg c) (hd:yg d):yg fun x y=>bif bM (c x y) 0 then d x y else c x y where
 oi x y:=by
  have h1:=hc.oi x y;have h2:=hd.oi x y;simp only[x7];omega
 small x y:=by
  have h1:=hc.small x y;have h2:=hd.small x y
  grind
 trans x y z:=by
  have a1:=hc.oi x y;have a2:=hc.oi y z;have a3:=hc.oi x z;have t1:=hc.trans x y z;have t2:=hc.trans z y x;have t3:=hc.trans y z x;have t4:=hc.trans z x y;have t5:=hc.trans y x z;have t6:=hc.trans x z y;have td:=hd.trans x y z;simp only[x7];omega
theorem yg.fz {α:Type} {c:α->α->Int} {l:α->α->List Int} (hc:yg c) (h:yg fun x y=>Bj (l x y)):yg fun x y=>Bj (c x y::l x y):=hc.lex h
theorem pre_nil {α:Type}:yg fun _ _:α=>Bj []:=⟨fun _ _=>Z,fun _ _=>⟨by decide,by decide⟩,fun _ _ _ _ _=>by decide⟩
theorem w7 {α:Type} {c:α->α->Int} (hc:yg c):yg (dS c) where
 oi:=by
  intro l;induction l with
  | nil=>intro m;cases m<;>rfl
  | cons x l ih=>
   intro m;cases m with
   | nil=>rfl
   | cons y m=>
    show(bif bM (c y x) 0 then dS c m l else c y x)= -(bif bM (c x y) 0 then dS c l m else c x y);have h1:=hc.oi x y;have h2:=ih m;simp only[x7];omega
 small:=by
  intro l;induction l with
  | nil=>
   intro m;cases m with
   | nil=>exact(by decide:(-1:Int)<=0/\(0:Int)<=1)
   | cons y m=>exact(by decide:(-1:Int)<=-1/\(-1:Int)<=1)
  | cons x l ih=>
   intro m;cases m with
   | nil=>exact(by decide:(-1:Int)<=1/\(1:Int)<=1)
   | cons y m=>
    show-1<=(bif bM (c x y) 0 then dS c l m else c x y)/\(bif bM (c x y) 0 then dS c l m else c x y)<=1;have h1:=hc.small x y
    grind
 trans:=by
  intro l;induction l with
  | nil=>intro m n _ _;cases n<;>first | exact(by decide:(0:Int)<=0) | exact(by decide:(-1:Int)<=0)
  | cons x l ih=>
   intro m n;cases m with
   | nil=>intro h;exact absurd (show(1:Int)<=0 from h) (by decide)
   | cons y m=>
    cases n with
    | nil=>intro _ h;exact absurd (show(1:Int)<=0 from h) (by decide)
    | cons z n=>
     show(bif bM (c x y) 0 then dS c l m else c x y)<=0->(bif bM (c y z) 0 then dS c m n else c y z)<=0->(bif bM (c x z) 0 then dS c l n else c x z)<=0;have a1:=hc.oi x y;have a2:=hc.oi y z;have a3:=hc.oi x z;have t1:=hc.trans x y z;have t2:=hc.trans z y x;have t3:=hc.trans y z x;have t4:=hc.trans z x y;have t5:=hc.trans y x z;have t6:=hc.trans x z y;have td:=ih m n;simp only[x7];omega
theorem qa {α:Type}:yg (iC (α:=α)):=sl.pull fun l:List α=>.ofNat l.length
theorem OW:yg ou:=(sl.pull cQ.cq).fz ((sl.pull cQ.index).fz pre_nil)
theorem OV:yg nO:=(sl.pull cU.kind).fz ((sl.pull cU.loc).fz ((sl.pull cU.order).fz ((sl.pull cU.read).fz ((sl.pull cU.write).fz pre_nil))))
theorem Gr:yg iB:=qa.fz ((w7 OW).fz pre_nil)
theorem CL:yg dQ:=
 (qa.pull XG.threads).fz (((w7 qa).pull XG.threads).fz (((w7<|w7 OV).pull XG.threads).fz ((qa.pull XG.from_).fz (((w7 Gr).pull XG.from_).fz ((qa.pull XG.order).fz (((w7 Gr).pull XG.order).fz ((qa.pull XG.init).fz (((w7 sl).pull XG.init).fz pre_nil))))))))
theorem va {x y:Int} (h:eK x y=0):x=y:=by rcases iD x y with ⟨h',e⟩ | ⟨h',e⟩ | ⟨h',e⟩<;>omega
theorem gh {x:Int} {l:List Int} (h:Bj (x::l)=0):x=0/\Bj l=0:=by
 have h:(bif bM x 0 then Bj l else x)=0:=h;rw[x7] at h;omega
theorem zV {α:Type} {c:α->α->Int} (hc:∀x y,c x y=0->x=y):∀{l m:List α},dS c l m=0->l=m
 | [],[],_=>rfl
 | [],_::_,h=>absurd (show(-1:Int)=0 from h) (by decide)
 | _::_,[],h=>absurd (show(1:Int)=0 from h) (by decide)
 | x::l,y::m,h=>by
  have h:(bif bM (c x y) 0 then dS c l m else c x y)=0:=h;rw[x7] at h;split at h
  ·rename_i h1;rw[hc x y h1,zV hc h]
  contradiction
theorem IZ (x y:cQ) (h:ou x y=0):x=y:=by
 obtain⟨h1,h⟩:=gh h;obtain⟨h2,h⟩:=gh h;cases x;cases y
 grind [va]
theorem IY (x y:cU) (h:nO x y=0):x=y:=by
 obtain⟨h1,h⟩:=gh h;obtain⟨h2,h⟩:=gh h;obtain⟨h3,h⟩:=gh h;obtain⟨h4,h⟩:=gh h;obtain⟨h5,h⟩:=gh h;cases x;cases y
 grind [va]
theorem Hi (x y:List cQ) (h:iB x y=0):x=y:=by
 obtain⟨_,h⟩:=gh h;obtain⟨b,_⟩:=gh h;exact zV IZ b
theorem FK {x y:XG} (h:dQ x y=0):x=y:=by
 obtain⟨_,h⟩:=gh h;obtain⟨_,h⟩:=gh h;obtain⟨h3,h⟩:=gh h;obtain⟨_,h⟩:=gh h;obtain⟨h5,h⟩:=gh h;obtain⟨_,h⟩:=gh h;obtain⟨h7,h⟩:=gh h;obtain⟨_,h⟩:=gh h;obtain⟨h9,_⟩:=gh h;cases x;cases y
 grind [zV,IY,Hi,va]
theorem me {α:Type} {l:List α} {ls:List (List α)}:mG (l::ls)=l.length+mG ls:=by unfold mG;simp
theorem zB {t:Nat}:∀{l:List cU} {n:Nat},∀p∈fD t l n,∃k,p.1= [.ofNat (t+1),.ofNat (n+k)]/\k<l.length
 | [],_,p,h=>by cases h
 | e::l,n,p,h=>by
  have h':p∈(bif bH e then([.ofNat (t+1),.ofNat n],e.loc)::fD t l (n+1) else fD t l (n+1)):=h
  have key:p∈fD t l (n+1)->∃k,p.1= [.ofNat (t+1),.ofNat (n+k)]/\k<(e::l).length:=fun h=>by
   obtain⟨k,h1,h2⟩:=zB (l:=l) p h;exact⟨k+1,by rw[h1,show n+1+k=n+(k+1) by omega],by rw[List.length_cons];omega⟩
  cases hw:bH e with
  | false=>rw[hw] at h';exact key h'
  | true=>
   rw[hw] at h';rcases mQ_.1 h' with rfl | h'
   ·exact⟨0,Z,by rw[List.length_cons];omega⟩
   exact key h'
theorem zy:∀{ls:List (List cU)} {t:Nat},∀p∈fU ls t,∃(s k:Nat) (l:List cU),p.1= [.ofNat (t+s+1),.ofNat k]/\ls[s]? =some l/\k<l.length
 | [],_,p,h=>by cases h
 | l::ls,t,p,h=>by
  have h':p∈fD t l 0++fU ls (t+1):=h;rcases List.mem_append.1 h' with h' | h'
  ·obtain⟨k,h1,b⟩:=zB p h';exact⟨0,k,l,by rw[h1,nA_],Z,b⟩
  obtain⟨s,k,l',h1,b,d⟩:=zy (ls:=ls) p h';exact⟨s+1,k,l',by rw[h1,show t+1+s+1=t+(s+1)+1 by omega],by simpa using b,d⟩
theorem wV:∀{ls:List (List cQ)} {loc ln:Nat} {r:List cQ} {x:cQ},ls[ln]? =some r->x∈r->(x.ints,Int.ofNat (loc+ln))∈ij ls loc
 | [],_,_,_,_,h,_=>by simp at h
 | l::ls,loc,0,r,x,h,hx=>by
  have:l=r:=by simpa using h
  subst this;exact List.mem_append_left _<|List.mem_map.2 ⟨x,hx,Z⟩
 | l::ls,loc,ln+1,r,x,h,hx=>by
  have h':ls[ln]? =some r:=by simpa using h
  have:=wV (loc:=loc+1) h' hx;rw[show loc+1+ln=loc+(ln+1) by omega] at this;exact List.mem_append_right _ this
theorem Mx {g:XG} (h:eb g) {tm ln:Nat} {row:List cU} {r:List cQ} (hr:g.threads[tm]? =some row) (d:g.order[ln]? =some r):(⟨.ofNat (tm+1),.ofNat row.length⟩:cQ)∉r:=fun hx=>by
 have h1:=h.perm.mem_iff.2 (wV (loc:=0) d hx);obtain⟨s,k,l,b,h3,h4⟩:=zy _ h1;rw[show 0+s+1=s+1 by omega] at b;have b: [Int.ofNat (tm+1),Int.ofNat row.length]= [.ofNat (s+1),.ofNat k]:=b
 grind
theorem xy {α:Type}:∀{ls:List (List α)} {tm:Nat} {row:List α} {e:α},ls[tm]? =some row->mG (ls.set tm (row++[e]))=mG ls+1
 | [],_,_,_,h=>by simp at h
 | l::ls,0,row,e,h=>by
  have:l=row:=by simpa using h
  subst this;show mG ((l++[e])::ls)=_;rw[me,me,lA_,List.length_singleton];omega
 | l::ls,tm+1,row,e,h=>by
  have h':ls[tm]? =some row:=by simpa using h
  show mG (l::ls.set tm (row++[e]))=_;rw[me,me,xy h'];omega
def EH (id:cQ) (y:cQ):Bool:= !(bW y.ints id.ints)
theorem JX {id y:cQ} (h:y≠id):EH id y=true:=by
 unfold EH;rw[cQ.same,kq.2 h];rfl
theorem F4 {α:Type} {p:α->Bool} {x:α} (hx:p x=true):∀{a b:List α} {i:Nat},(∀y∈a,p y=false)->fx p (a++x::b) i= .ofNat (i+a.length)
 | [],b,i,_=>by
  show(bif p x then Int.ofNat i else _)=_;rw[hx];rfl
 | y::a,b,i,h=>by
  show(bif p y then Int.ofNat i else fx p (a++x::b) (i+1))=_;rw[h y<|mS_ ..];show fx p (a++x::b) (i+1)=_;rw[F4 hx fun z hz=>h z (mC_ _ hz),List.length_cons,show i+1+a.length=i+(a.length+1) by omega]
theorem filter_all {id:cQ} {l:List cQ} (h:id∉l):l.filter (EH id)=l:=List.filter_eq_self.2 fun y hy=>JX fun e=>h (e ▸ hy)
theorem Er {id:cQ} {a b:List cQ} (ha:id∉a) (hb:id∉b):(a++id::b).filter (EH id)=a++b:=by
 have h:EH id id=false:=by unfold EH;rw[cQ.same,bR.2 Z];rfl
 grind [filter_all]
theorem Hb {g h:XG} {th pl:Int} {e:cU} {fr:cQ} (K:ng g th e fr pl=(some h,0)):∃(tm:Nat) (row:List cU),th= .ofNat (tm+1)/\g.threads[tm]? =some row/\bY g=0/\bY h=0/\ez h ⟨.ofNat (tm+1),.ofNat row.length⟩=some e/\Ef h=Ef g+1/\
  (dy 0 pl=true->bH e=true/\fx (fun y=>bW (⟨.ofNat (tm+1),.ofNat row.length⟩:cQ).ints y.ints) (ed h e.loc) 0=pl)/\(∀id w,ez g id=some w->ez h id=some w)/\
  ∀loc:Nat,loc<g.init.length->(ed h (.ofNat loc)).filter (EH ⟨.ofNat (tm+1),.ofNat row.length⟩)=ed g (.ofNat loc):=by
 obtain⟨E,tm,row,frow,rfl,d,q1,l1,b,rfl,ch⟩:=kZ K;have rg:=ei.1 E;have e1:bM (bY g) 0=true:=by rw[E];rfl
 have e2:bM (bY<|jM g tm e fr pl row frow) 0=true:=by rw[ch];rfl
 have F:∀(ln:Nat) (r:List cQ),g.order[ln]? =some r->(⟨.ofNat (tm+1),.ofNat row.length⟩:cQ)∉(⟨0,.ofNat ln⟩:cQ)::r:=fun ln r m hm=>by
  rcases mQ_.1 hm with hm | hm
  ·grind
  exact Mx rg d m hm
 have u:bH e=true->∃(ln pm:Nat) (r:List cQ),e.loc= .ofNat ln/\pl= .ofNat (pm+1)/\g.order[ln]? =some r/\pm<=r.length/\ed (jM g tm e fr pl row frow) (.ofNat ln)=(⟨0,.ofNat ln⟩::r.take pm)++⟨.ofNat (tm+1),.ofNat row.length⟩::r.drop pm:=fun hw=>by
  obtain⟨ln,r,h1,C,I⟩:=rT b hw;unfold ka at b;rw[hw] at b;have b:(bif dy pl 1 then true else dy (.ofNat (ed g e.loc).length) pl)=false:=b;cases h4:dy pl 1 with
  | true=>simp_all
  | false=>
   rw[h4] at b;obtain⟨pm,rfl⟩:=EW h4;have h5:dy (.ofNat (ed g e.loc).length) (.ofNat (pm+1))=false:=b;have h6:=bC h5;refine⟨ln,pm,r,h1,Z,C,by omega,?_⟩
   have G:(jM g tm e fr (.ofNat (pm+1)) row frow).order[ln]? =some (r.take pm++⟨.ofNat (tm+1),.ofNat row.length⟩::r.drop pm):=by
    rw[Ml hw h1 C]
    grind
   rw[gG e2 G];rfl
 refine⟨tm,row,Z,d,E,ch,Jf d Z,?_,fun hp=>?_,fun id w hw=>Jg d Z Z hw,fun loc A=>?_⟩
 ·unfold Ef;rw[e1,e2];show g.init.length+mG (g.threads.set tm (row++[e]))=g.init.length+mG g.threads+1;rw[xy d];omega
 ·have hw:bH e=true:=by
   cases hw:bH e with
   | true=>rfl
   | false=>
    unfold ka at b;rw[hw] at b;have b:(!bM pl 0)=false:=b;have:=NN (kG b);subst this;cases hp
  refine⟨hw,?_⟩;obtain⟨ln,pm,r,h1,rfl,I,h4,h5⟩:=u hw;rw[h1,h5,F4 (p:=fun y:cQ=>bW (⟨.ofNat (tm+1),.ofNat row.length⟩:cQ).ints y.ints) (bR.2 Z) fun y hy=>kq.2 fun he=>?_]
  ·simp_all
  have aa:y=(⟨.ofNat (tm+1),.ofNat row.length⟩:cQ):=by
   have:bW y.ints (⟨.ofNat (tm+1),.ofNat row.length⟩:cQ).ints=true:=bR.2 he.symm;rw[cQ.same] at this;exact bR.1 this
  grind
 obtain⟨r,m⟩:=bZ (show loc<g.order.length by rw[rg.order];exact A);rw[gG e1 m]
 by_cases hw:bH e=true/\e.loc.toNat=loc
 ·obtain⟨ln,pm,r',h1,rfl,I,h4,h5⟩:=u hw.1
  grind [Er,List.take_append_drop]
 have G:(jM g tm e fr pl row frow).order[loc]? =some r:=by
  show(HS g.order e ⟨.ofNat (tm+1),.ofNat row.length⟩ pl)[loc]? =_;rw[Gh fun h1 C=>hw ⟨h1,C⟩,m]
 rw[gG e2 G,filter_all<|F loc r m]
theorem sd {α β:Type} (f:α->β) {l:List α} (h:(l.map f).Nodup):l.Nodup:=List.Pairwise.of_map f (fun _ _ hh e=>hh (congrArg f e)) h
theorem Az {α:Type}:∀{l m:List α},l.Nodup->(∀x∈l,x∈m)->m.length<=l.length->l.Perm m
 | [],m,_,_,h=>by simp_all
 | x::l,m,b,d,h=>by
  rw[List.nodup_cons] at b;obtain⟨i,hi⟩:=gO_ (d x<|mS_ ..);have hp:=jU hi;have hlen:=hp.length_eq;rw[List.length_cons] at hlen h;refine(List.Perm.cons x<|Az (l:=l) (m:=m.eraseIdx i) b.2 (fun y hy=>?_) oM).trans hp.symm
  grind
theorem CC {α:Type}:∀{l m:List α},l.Nodup->(∀x∈l,x∈m)->l.length<=m.length
 | [],_,_,_=>Nat.zero_le _
 | x::l,m,b,d=>by
  rw[List.nodup_cons] at b;obtain⟨i,hi⟩:=gO_ (d x<|mS_ ..);have hp:=jU hi;have hlen:=hp.length_eq;rw[List.length_cons] at hlen⊢
  have:=CC (l:=l) (m:=m.eraseIdx i) b.2 fun y hy=>by
   grind
  omega
def fL (loc:Int):List cU->Nat
 | []=>0
 | e::l=>(bif (bif bH e then bM e.loc loc else false) then 1 else 0)+fL loc l
def gR (loc:Int):List (List cU)->Nat
 | []=>0
 | l::r=>fL loc l+gR loc r
def qB (loc:Int) (p:List Int×Int):Bool:=bM p.2 loc
theorem pN {loc:Int} {t:Nat}:∀{l:List cU} {n:Nat},((fD t l n).filter<|qB loc).length=fL loc l
 | [],_=>rfl
 | e::l,n=>by
  show(List.filter (qB loc) (bif bH e then([.ofNat (t+1),.ofNat n],e.loc)::fD t l (n+1) else fD t l (n+1))).length=(bif (bif bH e then bM e.loc loc else false) then 1 else 0)+fL loc l;cases hw:bH e with
  | false=>
   simp only[cond_false,nA_];exact pN
  | true=>
   simp only[cond_true];rw[List.filter_cons];show(if bM e.loc loc=true then _ else _:LM).length=_;cases he:bM e.loc loc with
   | true=>simp only[if_true,cond_true,List.length_cons];rw[pN];omega
   | false=>simp only[cond_false,nA_];rw[if_neg (by decide)];exact pN
theorem s5 {loc:Int}:∀{ls:List (List cU)} {t:Nat},((fU ls t).filter<|qB loc).length=gR loc ls
 | [],_=>rfl
 | l::ls,t=>by
  show(List.filter (qB loc) (fD t l 0++fU ls (t+1))).length=fL loc l+gR loc ls;rw[List.filter_append,lA_,pN,s5]
theorem zA {t:Nat} {k:List Int} {v:Int}:∀{l:List cU} {n:Nat},(k,v)∈fD t l n↔∃i e,l[i]? =some e/\bH e=true/\k= [.ofNat (t+1),.ofNat (n+i)]/\v=e.loc
 | [],n=>⟨fun h=>(by cases h),fun⟨i,e,h,_⟩=>by simp at h⟩
 | e::l,n=>by
  show(k,v)∈(bif bH e then([.ofNat (t+1),.ofNat n],e.loc)::fD t l (n+1) else fD t l (n+1))↔_;have ih:=zA (t:=t) (k:=k) (v:=v) (l:=l) (n:=n+1)
  have up:(k,v)∈fD t l (n+1)↔∃i e',l[i]? =some e'/\bH e'=true/\k= [.ofNat (t+1),.ofNat (n+(i+1))]/\v=e'.loc:=by
   grind
  have cons:(∃i e',(e::l)[i]? =some e'/\bH e'=true/\k= [.ofNat (t+1),.ofNat (n+i)]/\v=e'.loc)↔(bH e=true/\k= [.ofNat (t+1),.ofNat n]/\v=e.loc)∨∃i e',l[i]? =some e'/\bH e'=true/\k= [.ofNat (t+1),.ofNat (n+(i+1))]/\v=e'.loc:=by
   constructor
   ·grind
   rintro (⟨b,d,h4⟩ | ⟨i,e',h1,b,d,h4⟩)
   ·exact⟨0,e,Z,b,d,h4⟩
   exact⟨i+1,e',by simpa using h1,b,d,h4⟩
  grind
theorem iX {k:List Int} {v:Int}:∀{ls:List (List cU)} {t:Nat},(k,v)∈fU ls t↔∃s i l e,ls[s]? =some l/\l[i]? =some e/\bH e=true/\k= [.ofNat (t+s+1),.ofNat i]/\v=e.loc
 | [],t=>⟨fun h=>(by cases h),fun⟨s,i,l,e,h,_⟩=>by simp at h⟩
 | l::ls,t=>by
  show(k,v)∈fD t l 0++fU ls (t+1)↔_;rw[List.mem_append,zA,iX (ls:=ls)];constructor
  ·rintro (⟨i,e,h1,b,d,h4⟩ | ⟨s,i,l',e,h0,h1,b,d,h4⟩)
   ·exact⟨0,i,l,e,Z,h1,b,by rw[d,nA_],h4⟩
   exact⟨s+1,i,l',e,by simpa using h0,h1,b,by grind,h4⟩
  grind
theorem gE {k:List Int} {v:Int}:∀{ls:List (List cQ)} {loc:Nat},(k,v)∈ij ls loc↔∃ln r id,ls[ln]? =some r/\id∈r/\k=id.ints/\v= .ofNat (loc+ln)
 | [],loc=>⟨fun h=>(by cases h),fun⟨ln,r,id,h,_⟩=>by simp at h⟩
 | r::ls,loc=>by
  show(k,v)∈eH loc r++ij ls (loc+1)↔_;rw[List.mem_append,gE (ls:=ls)];constructor
  ·rintro (h | ⟨ln,r',id,h1,b,d,h4⟩)
   ·obtain⟨id,h1,b⟩:=List.mem_map.1 h
    grind
   exact⟨ln+1,r',id,by simpa using h1,b,d,by grind⟩
  rintro ⟨ln,r',id,h1,b,d,h4⟩;cases ln with
  | zero=>
   have:r=r':=by simpa using h1
   subst this;exact .inl<|List.mem_map.2 ⟨id,b,by simp_all⟩
  | succ ln=>grind
theorem rF {loc:Nat} (r:List cQ):(eH loc r).filter (qB (.ofNat loc))=eH loc r:=List.filter_eq_self.2 fun p hp=>by
 obtain⟨id,_,rfl⟩:=List.mem_map.1 hp;show bM (.ofNat loc) (.ofNat loc)=true;rw[fN];simp
theorem qw {loc x:Nat} (r:List cQ) (h:loc≠x):(eH loc r).filter (qB (.ofNat x))= []:=List.filter_eq_nil_iff.2 fun p hp=>by
 obtain⟨id,_,rfl⟩:=List.mem_map.1 hp;show¬bM (.ofNat loc) (.ofNat x)=true;rw[fN];simp[h]
theorem uC {x:Nat}:∀{ls:List (List cQ)} {loc ln:Nat} {r:List cQ},ls[ln]? =some r->loc+ln=x->(ij ls loc).filter (qB (.ofNat x))=eH x r
 | [],_,_,_,h,_=>by simp at h
 | q::ls,loc,0,r,h,hx=>by
  have:q=r:=by simpa using h
  subst this;have hx:loc=x:=by omega
  subst hx;show(eH loc q++ij ls (loc+1)).filter _=_;rw[List.filter_append,rF]
  have:(ij ls (loc+1)).filter (qB (.ofNat loc))= []:=List.filter_eq_nil_iff.2 fun p hp=>by
   obtain⟨k,v⟩:=p;obtain⟨ln,r,id,_,_,_,rfl⟩:=gE.1 hp;show¬bM (.ofNat (loc+1+ln)) (.ofNat loc)=true;rw[fN];simp;omega
  rw[this,List.append_nil]
 | q::ls,loc,ln+1,r,h,hx=>by
  show(eH loc q++ij ls (loc+1)).filter _=_;rw[List.filter_append,qw q oM,uC (ls:=ls) (loc:=loc+1) (ln:=ln) (by simpa using h) oM];rfl
def xX (g:XG) (loc:Int) (id:cQ):Bool:=
 bif (ez g id).isSome then(bif bM id.cq 0 then false else bif bH (vW<|ez g id) then bM (vW<|ez g id).loc loc else false) else false
structure FB (g:XG) (ln:Nat) (r:List cQ):Prop where
 PH:∀id∈r,xX g (.ofNat ln) id=true
 nodup:r.Nodup
 SB:r.length=gR (.ofNat ln) g.threads
theorem lE {x y:cQ} (h:x.ints=y.ints):x=y:=by
 have:bW x.ints y.ints=true:=bR.2 h;rw[cQ.same] at this;exact bR.1 this
theorem Ab {g:XG} {ln:Nat} {id:cQ}:xX g (.ofNat ln) id=true↔(id.ints,Int.ofNat ln)∈fU g.threads 0:=by
 rw[iX];unfold xX;constructor
 ·intro h;cases b:ez g id with
  | none=>rw[b] at h;cases h
  | some e=>
   rw[b] at h;obtain⟨th,ix⟩:=id;have h:(bif bM th 0 then false else bif bH e then bM e.loc (.ofNat ln) else false)=true:=h;cases h0:bM th 0 with
   | true=>rw[h0] at h;cases h
   | false=>
    rw[h0] at h;cases hw:bH e with
    | false=>rw[hw] at h;cases h
    | true=>
     rw[hw] at h
     have hl:e.loc= .ofNat ln:=by
      have h:bM e.loc (.ofNat ln)=true:=h;rw[dv] at h;simp_all
     obtain⟨t,i,rfl,rfl,_,_,hp⟩:=Je (by rw[b];rfl);cases t with
     | zero=>cases h0
     | succ t=>
      rw[jf] at b;cases d:g.threads[t]? with
      | none=>simp_all
      | some l=>
       rw[d] at b;exact⟨t,i,l,e,d,b,hw,by rw[nA_];rfl,hl.symm⟩
 rintro ⟨s,i,l,e,h1,m,u,h4,h5⟩;obtain⟨th,ix⟩:=id;rw[nA_] at h4;have h4: [th,ix]= [.ofNat (s+1),.ofNat i]:=h4;simp only[List.cons.injEq,and_true] at h4;obtain⟨rfl,rfl⟩:=h4;have he:ez g ⟨.ofNat (s+1),.ofNat i⟩=some e:=by rw[jf,h1];exact m
 rw[he];show(bif bM (.ofNat (s+1)) 0 then false else bif bH e then bM e.loc (.ofNat ln) else false)=true;rw[show bM (.ofNat (s+1)) 0=false by rw[show(0:Int)= .ofNat 0 from Z,fN];simp,u,<-h5]
 grind [fN]
theorem kU {ls:List (List cU)} {t:Nat}:(fU ls t).Nodup:=sd _ pA
theorem sj {loc:Nat} {r:List cQ} (h:r.Nodup):(eH loc r).Nodup:=by
 grind [eH,lE]
theorem uD {g:XG} (A:∀(t:Nat) (l:List cU) (i:Nat) (e:cU),g.threads[t]? =some l->l[i]? =some e->bH e=true->∃ln:Nat,e.loc= .ofNat ln/\ln<g.order.length):
  (∀(ln:Nat) (r:List cQ),g.order[ln]? =some r->FB g ln r)↔(fU g.threads 0).Perm (ij g.order 0):=by
 constructor
 ·intro h;refine Az kU (fun p hp=>?_) ?_
  ·obtain⟨k,v⟩:=p;obtain⟨s,i,l,e,h1,F,G,h4,h5⟩:=iX.1 hp;obtain⟨ln,I,K⟩:=A s l i e h1 F G;obtain⟨r,u⟩:=bZ K;have ho:=h ln r u
   have hq:(eH ln r).Perm ((fU g.threads 0).filter<|qB (.ofNat ln)):=by
    refine Az (sj ho.nodup) (fun q hq=>?_) ?_
    ·obtain⟨id,d,rfl⟩:=List.mem_map.1 hq;refine List.mem_filter.2 ⟨Ab.1<|ho.PH id d,?_⟩;show bM (.ofNat ln) (.ofNat ln)=true;rw[fN];simp
    rw[s5,<-ho.SB];unfold eH;simp_all
   have hm:(k,v)∈eH ln r:=hq.mem_iff.2 (List.mem_filter.2 ⟨hp,by show bM v (.ofNat ln)=true;rw[h5,I,fN];simp⟩);obtain⟨id,d,he⟩:=List.mem_map.1 hm;cases he;exact gE.2 ⟨ln,r,id,u,d,Z,by rw[nA_]⟩
  
  have key:∀(m:Nat) (ls:List (List cQ)),(∀(ln:Nat) (r:List cQ),ls[ln]? =some r->FB g (m+ln) r)->((ij ls m).Nodup/\∀p∈ij ls m,p∈fU g.threads 0):=by
   intro m ls;induction ls generalizing m with
   | nil=>intro _;exact⟨List.nodup_nil,fun p hp=>by cases hp⟩
   | cons r ls ih=>
    intro hh
    obtain⟨L,M⟩:=ih (m+1) fun ln r' E=>by
     have:=hh (ln+1) r' (by simpa using E)
     grind
    have h0:=hh 0 r Z;rw[Nat.add_zero] at h0;refine⟨?_,fun p hp=>?_⟩
    ·show(eH m r++ij ls (m+1)).Nodup;rw[List.nodup_append];refine⟨sj h0.nodup,L,fun a Q b hb aa=>?_⟩;obtain⟨id,_,rfl⟩:=List.mem_map.1 Q
     grind [gE]
    rcases List.mem_append.1 (show p∈eH m r++ij ls (m+1) from hp) with hp | hp
    ·obtain⟨id,d,rfl⟩:=List.mem_map.1 hp;exact Ab.1<|h0.PH id d
    exact M p hp
  obtain⟨R,T⟩:=key 0 g.order fun ln r u=>by simp_all
  exact CC R T
 intro hp ln r u;have C:∀id∈r,(id.ints,Int.ofNat ln)∈fU g.threads 0:=fun id d=>hp.mem_iff.2 (gE.2 ⟨ln,r,id,u,d,Z,by rw[nA_]⟩)
 have hf:=uC (x:=ln) (loc:=0) u (nA_ _);refine⟨fun id d=>Ab.2 (C id d),?_,?_⟩
 ·grind [kU,eH,sd]
 have:=(hp.filter<|qB (.ofNat ln)).length_eq
 grind [s5,eH]
theorem kV {g:XG} (h1:eE g=false) (b:¬eb g):bY g=2:=by
 have d:bY g≠0:=fun h=>b (ei.1 h)
 unfold bY at d⊢
 grind
theorem Db {g:XG} (h:dy 4 (.ofNat g.threads.length)=true):eE g=true:=by unfold eE;rw[h];rfl
theorem Dd {g:XG} (h:dy 6 (.ofNat g.init.length)=true):eE g=true:=by
 grind [eE]
theorem Dc {g:XG} {i:Nat} {x:List cU} (hx:g.threads[i]? =some x) (h:dy 14 (.ofNat x.length)=true):eE g=true:=by
 grind [eE]
theorem Fl {g:XG} {i:Nat} (h1:dy 4 (.ofNat g.threads.length)=false) (h2:dy 6 (.ofNat g.init.length)=false) (hi:g.threads.length<=i) (h3:∀(k:Nat) (l:List cU),k<i->g.threads[k]? =some l->dy 14 (.ofNat l.length)=false):eE g=false:=by
 grind [eE,gO_]
theorem ot {g:XG} (h:eE g=true):bY g=3:=by unfold bY;rw[h];rfl
theorem OA {a b:Int} (h:bM a b=true):a=b:=by rw[dv] at h;simp_all
theorem CV {e:cU} {n:Nat} (h:bQ e (.ofNat n)=true) (hw:bH e=true):∃ln:Nat,e.loc= .ofNat ln/\ln<n:=by
 unfold bQ at h
 have hk:bM e.kind 4=false:=by
  grind [bH,OA]
 rw[hk] at h
 have key:(bif cC (dy e.loc 0) then dy e.loc (.ofNat n) else false)=true:=by
  simp_all
 cases h0:dy e.loc 0 with
 | true=>rw[h0] at key;cases key
 | false=>
  rw[h0] at key;obtain⟨ln,hl⟩:=nv h0;rw[hl] at key;exact⟨ln,hl,aS key⟩
theorem J9 {g:XG} {t n:Nat} {e:cU} {q:cQ} (h:xO g t n e q=true):bQ e (.ofNat g.init.length)=true/\cV g ⟨.ofNat (t+1),.ofNat n⟩ q=true:=by
 unfold xO at h
 simp_all
theorem Ka {g:XG} {t n:Nat} {e:cU} {q:cQ} (h1:bQ e (.ofNat g.init.length)=true) (b:cV g ⟨.ofNat (t+1),.ofNat n⟩ q=true):xO g t n e q=true:=by
 unfold xO;rw[h1];exact b
theorem oy {loc:Int}:∀{l:List cU} {i:Nat} {x:cU},l[i]? =some x->fL loc (l.take (i+1))=fL loc (l.take i)+(bif (bif bH x then bM x.loc loc else false) then 1 else 0)
 | [],_,_,h=>by simp at h
 | e::l,0,x,h=>by
  have:e=x:=by simpa using h
  subst this;show(bif (bif bH e then bM e.loc loc else false) then 1 else 0)+fL loc []=0+_;rw[nA_];rfl
 | e::l,i+1,x,h=>by
  have h':l[i]? =some x:=by simpa using h
  show(bif (bif bH e then bM e.loc loc else false) then 1 else 0)+fL loc (l.take (i+1))=(bif (bif bH e then bM e.loc loc else false) then 1 else 0)+fL loc (l.take i)+_;rw[oy h',Nat.add_assoc]
theorem Mb {loc:Int} {l:List cU} {i:Nat} {x:cU} (h:l[i]? =some x) (h1:bH x=true) (b:bM x.loc loc=true):fL loc (l.take (i+1))=fL loc (l.take i)+1:=by
 rw[oy h,h1,b];rfl
theorem I0 {loc:Int} {l:List cU} {i:Nat} {x:cU} (h:l[i]? =some x) (h1:bH x=false∨bM x.loc loc=false):fL loc (l.take (i+1))=fL loc (l.take i):=by
 grind [oy]
theorem ug {loc:Int}:∀{ls:List (List cU)} {i:Nat} {x:List cU},ls[i]? =some x->gR loc (ls.take (i+1))=gR loc (ls.take i)+fL loc x
 | [],_,_,h=>by simp at h
 | l::ls,0,x,h=>by
  have:l=x:=by simpa using h
  subst this;show fL loc l+gR loc []=0+_;rw[nA_];rfl
 | l::ls,i+1,x,h=>by
  have h':ls[i]? =some x:=by simpa using h
  show fL loc l+gR loc (ls.take (i+1))=fL loc l+gR loc (ls.take i)+_;rw[ug h',Nat.add_assoc]
theorem s6 {loc:Int}:∀{l:List cU},fL loc l<=l.length
 | []=>nR_ _
 | e::l=>by
  have:=s6 (loc:=loc) (l:=l);show(bif (bif bH e then bM e.loc loc else false) then 1 else 0)+fL loc l<=l.length+1;cases (bif bH e then bM e.loc loc else false) with
  | true=>show 1+_<=_;omega
  | false=>show 0+_<=_;omega
theorem yu {loc:Int} {b:Nat}:∀{ls:List (List cU)},(∀l∈ls,l.length<=b)->gR loc ls<=ls.length*b
 | [],_=>Nat.zero_le _
 | l::ls,h=>by
  have h1:=h l (mS_ ..);have h2:=yu (loc:=loc) (ls:=ls) fun x hx=>h x (mC_ _ hx)
  grind [s6,gR,Nat.succ_mul]
theorem zW {loc:Int} {ls:List (List cU)} {i:Nat} (h1:ls.length<=4) (d:∀l∈ls,l.length<=14):gR loc (ls.take i)<=56:=by
 have h3:=yu (loc:=loc) (b:=14) (ls:=ls.take i) fun l hl=>d l (List.mem_of_mem_take hl)
 grind
theorem J2 {α:Type} {l:List α} (h:l.Nodup) {i j:Nat} {a b:α} (aa:i<j) (ha:l[i]? =some a) (hb:l[j]? =some b):a≠b:=fun e=>by
 grind [List.pairwise_iff_getElem]
theorem J3 {α:Type} {l:List α} (h:∀(i j:Nat) (a b:α),i<j->l[i]? =some a->l[j]? =some b->a≠b):l.Nodup:=
 List.pairwise_iff_getElem.2 fun i j h1 m d=>h i j _ _ d (gC h1) (gC m)
def Qd:List (List cU)->Nat->List cQ
 | [],_=>[]
 | r::l,t=>(List.range r.length).map (fun i=>(⟨.ofNat (t+1),.ofNat i⟩:cQ))++Qd l (t+1)
def OG (g:XG):List cQ:=(List.range g.init.length).map (fun i=>(⟨0,.ofNat i⟩:cQ))++Qd g.threads 0
def JA (g:XG) (i:Nat):cQ:=((OG g)[i]?).getD ⟨0,0⟩
def ta (g:XG) (i:Nat):cU:=vW (ez g<|JA g i)
def nV (g:XG):Nat:=(OG g).length
section
variable {g:XG}
end
theorem F6 {α:Type} {p:α->Bool}:∀{l:List α} {i n:Nat} {x:α},l[n]? =some x->p x=true->(∀k y,k<n->l[k]? =some y->p y=false)->fx p l i= .ofNat (i+n)
 | [],_,_,_,h,_,_=>by simp at h
 | y::l,i,0,x,h,hp,_=>by
  simp only[List.getElem?_cons_zero,oJ_] at h;subst h;unfold fx;rw[hp];rfl
 | y::l,i,n+1,x,h,hp,hb=>by
  unfold fx;rw[hb 0 y oM Z];have:=F6 (i:=i+1) (l:=l) (n:=n) (by simpa using h) hp fun k z hk hz=>hb (k+1) z oM (by simpa using hz)
  show fx p l (i+1)=_;rw[this,show i+1+n=i+(n+1) by omega]
def S7 (g:XG) (id:cQ):cQ:=((((g.from_[id.cq.toNat-1]?).getD [])[id.index.toNat]?).getD ⟨0,0⟩)
def rY (g:XG) (i:Nat):Int:=bif dR (ta g i) then fx (fun x:cQ=>bW x.ints (S7 g<|JA g i).ints) (OG g) 0 else-1
def R2 (g:XG) (loc:Int):List cQ:=(g.order[loc.toNat]?).getD []
def AB (g:XG) (i:Nat):Int:=bif bM (JA g i).cq 0 then 0 else(let p:=fx (fun x:cQ=>bW x.ints (JA g i).ints) (R2 g (ta g i).loc) 0;bif dy p 0 then-1 else wr .i64 (Int.add p 1))
def Qw (g:XG):Rn:=fun i j=>bif (bif bM (JA g i).cq 0 then dy 0 (JA g j).cq else false) then true else bif dy 0 (JA g i).cq then(bif bM (JA g i).cq (JA g j).cq then dy (JA g i).index (JA g j).index else false) else false
def Q5 (g:XG):Rn:=fun i j=>bif bH (ta g i) then(bif bH (ta g j) then(bif bM (ta g i).loc (ta g j).loc then dy (AB g i) (AB g j) else false) else false) else false
def RK (g:XG):Rn:=fun i j=>bif cC (bM (.ofNat i) (.ofNat j)) then(bif dR (ta g i) then Q5 g (rY g i).toNat j else false) else false
def PZ (g:XG) (i:Nat):Bool:=bif bM (ta g i).order 3 then true else bif bM (ta g i).order 5 then true else bM (ta g i).order 6
def QC (g:XG) (i:Nat):Bool:=bif bM (ta g i).order 4 then true else bif bM (ta g i).order 5 then true else bM (ta g i).order 6
inductive Sq (g:XG) (w:Nat):Nat->Prop where
 | base:Sq g w w
 | step {i f:Nat} (hi:i<nV g) (hk:bM (ta g i).kind 3=true) (hf:rY g i= .ofNat f) (h:Sq g w f):Sq g w i
open Classical in
def Ng (g:XG) (w:Nat):Nat->Bool:=fun k=>decide (Sq g w k)
theorem C1 {g:XG} {w k:Nat}:Ng g w k=true↔Sq g w k:=by unfold Ng;simp
theorem Cj {e:cU} (h:bM e.kind 3=true):dR e=true:=by unfold dR;rw[h];cases bM e.kind 1<;>rfl
theorem MF {l:List (Nat×Nat)} {a b:Nat}:RY l a b=true↔(a,b)∈l:=by
 unfold RY;simp only[List.any_eq_true,bA_,beq_iff_eq];constructor
 ·rintro ⟨⟨x,y⟩,hm,h1,d⟩;cases h1;cases d;exact hm
 intro h;exact⟨(a,b),h,Z,Z⟩
end Go.Ev
namespace Go.Ev
variable [Env]
set_option maxRecDepth 20000
def I7 (g:XG) (w:Nat):Bool:=bif bH (ta g w) then cC (bM (ta g w).order 1) else false
def I5 (g:XG) (w b:Nat):Bool:=bif dR (ta g b) then(bif bM (ta g b).order 1 then false else Ng g w (rY g b).toNat) else false
def I6 (g:XG) (w r:Nat):Bool:=bif QC g r then(bif bM (.ofNat r) (.ofNat w) then true else bif bM (ta g r).kind 4 then Qw g r w else false) else false
def I4 (g:XG) (b a:Nat):Bool:=bif PZ g a then(bif bM (.ofNat a) (.ofNat b) then true else bif bM (ta g a).kind 4 then Qw g b a else false) else false
def wh {α:Type} (c:Nat->Bool) (f:Nat->List α):Nat->List α
 | 0=>[]
 | k+1=>wh c f k++(bif c k then f k else [])
def l4 (g:XG) (b r k:Nat):List (Nat×Nat):=wh (I4 g b) (fun a=>[(r,a)]) k
def l3 (g:XG) (w b k:Nat):List (Nat×Nat):=wh (I6 g w) (fun r=>l4 g b r (nV g)) k
def l2 (g:XG) (w k:Nat):List (Nat×Nat):=wh (I5 g w) (fun b=>l3 g w b (nV g)) k
def l1 (g:XG) (k:Nat):List (Nat×Nat):=wh (I7 g) (fun w=>l2 g w (nV g)) k
theorem iP {α:Type} {c:Nat->Bool} {f:Nat->List α} {x:α}:∀{k:Nat},x∈wh c f k↔∃i,i<k/\c i=true/\x∈f i
 | 0=>⟨(fun h=>by cases h),fun⟨i,h,_⟩=>absurd h<|nZ_ _⟩
 | k+1=>by
  unfold wh;rw[List.mem_append,iP (k:=k)];constructor
  ·rintro (⟨i,h1,d,m⟩ | h)
   ·exact⟨i,by omega,d,m⟩
   cases hc:c k with
   | false=>rw[hc] at h;cases h
   | true=>rw[hc] at h;exact⟨k,by omega,hc,h⟩
  rintro ⟨i,h1,d,m⟩;rcases Nat.lt_or_ge i k with h | h
  ·exact .inl ⟨i,h,d,m⟩
  obtain rfl:i=k:=by omega
  exact .inr (by rw[d];exact m)
def QU (g:XG):Rn:=RY (l1 g<|nV g)
theorem GO {g:XG} {r a:Nat}:QU g r a=true↔∃w b,w<nV g/\b<nV g/\r<nV g/\a<nV g/\I7 g w=true/\I5 g w b=true/\I6 g w r=true/\I4 g b a=true:=by
 unfold QU;rw[MF];unfold l1;rw[iP];constructor
 ·rintro ⟨w,hw,cw,h⟩;obtain⟨b,hb,cb,h⟩:=iP.1 h;obtain⟨r',d,cr,h⟩:=iP.1 h;obtain⟨a',m,ca,h⟩:=iP.1 h;cases List.mem_singleton.1 h;exact⟨w,b,hw,hb,d,m,cw,cb,cr,ca⟩
 rintro ⟨w,b,hw,hb,d,m,cw,cb,cr,ca⟩;exact⟨w,hw,cw,iP.2 ⟨b,hb,cb,iP.2 ⟨r,d,cr,iP.2 ⟨a,m,ca,List.mem_singleton.2 Z⟩⟩⟩⟩
section
variable {g:XG} {w b r a:Nat} {X Y0 Zv:List (Nat×Nat)}
end
end Go.Ev
namespace Go.Ev
variable [Env]
def E5 (n:Nat) (R:Rn):Int:=fx (fun i=>IB n R i i) (List.range n) 0
def RN (g:XG):Rn:=IB (nV g) (Rf [Qw g,QU g])
theorem Cb {α:Type} {p:α->Bool}:∀{l:List α} {i:Nat},dy (fx p l i) 0= !(l.any p)
 | [],_=>rfl
 | x::l,i=>by
  unfold fx;rw[List.any_cons];cases hx:p x with
  | true=>rfl
  | false=>rw[Bool.false_or];exact Cb
structure Pm (n:Nat) (p q:Nat->Nat):Prop where
 lt:∀t,t<n->p t<n
 Bk:∀t,t<n->q t<n
 qp:∀t,t<n->q (p t)=t
 pq:∀t,t<n->p (q t)=t
theorem Pm.Ik {n:Nat} {p q:Nat->Nat} (h:Pm n p q):Pm n q p:=⟨h.Bk,h.lt,h.pq,h.qp⟩
def jD (p:Nat->Nat) (id:cQ):cQ:=match id.cq with | .ofNat (t+1)=>⟨.ofNat (p t+1),id.index⟩ | _=>id
def gu (p q:Nat->Nat) (g:XG):XG:=
 ⟨g.init,(List.range g.threads.length).map (fun j=>(g.threads[q j]?).getD []),(List.range g.threads.length).map (fun j=>((g.from_[q j]?).getD []).map (jD p)),g.order.map (·.map<|jD p)⟩
def uP (n:Nat) (id:cQ):Prop:=∃t:Nat,id.cq= .ofNat t/\t<=n
theorem sc {p:Nat->Nat} {t:Nat} {k:Int}:jD p ⟨.ofNat (t+1),k⟩=⟨.ofNat (p t+1),k⟩:=rfl
theorem uP.case {n:Nat} {id:cQ} (h:uP n id):(∃k,id=⟨0,k⟩)∨∃t k,t<n/\id=⟨.ofNat (t+1),k⟩:=by
 obtain⟨t,h1,b⟩:=h;obtain⟨a,k⟩:=id;dsimp only at h1;subst h1;cases t with
 | zero=>exact .inl ⟨k,Z⟩
 | succ t=>exact .inr ⟨t,k,b,Z⟩
section
variable {n:Nat} {p q:Nat->Nat} {g:XG}
theorem sb (h:Pm n p q) {id:cQ} (hi:uP n id):jD q (jD p id)=id:=by
 rcases hi.case with ⟨k,rfl⟩ | ⟨t,k,b,rfl⟩
 ·rfl
 rw[sc,sc,h.qp t b]
theorem Gc (h:Pm n p q) {a b:cQ} (d:uP n a) (hb:uP n b) (e:jD p a=jD p b):a=b:=by rw[<-sb h d,e,sb h hb]
theorem Ad {id:cQ} {e:cU} (h:ez g id=some e):uP g.threads.length id:=by
 obtain⟨a,k⟩:=id
 match a,k with
 | .ofNat 0,_=>exact⟨0,Z,Nat.zero_le _⟩
 | .ofNat (t+1),.ofNat k=>
  obtain⟨row,h1,_⟩:=Option.bind_eq_some_iff.1 (show(g.threads[t]?).bind (·[k]?)=some e from h)
  exact⟨t+1,Z,(gA.1 h1).1⟩
 | .ofNat (t+1),.negSucc k=>cases h
 | .negSucc t,_=>cases h
theorem vm (h:Pm g.threads.length p q) {t:Nat} (b:t<g.threads.length):(gu p q g).threads[p t]? =g.threads[t]?:=by
 show((List.range g.threads.length).map _)[p t]? =_;rw[gM_,List.getElem?_range<|h.lt t b];show some ((g.threads[q<|p t]?).getD [])=_;rw[h.qp t b,gC b];rfl
theorem gD:(gu p q g).threads.length=g.threads.length:=by show((List.range g.threads.length).map _).length=_;simp
theorem HM:(gu p q g).from_.length=g.threads.length:=by show((List.range g.threads.length).map _).length=_;simp
theorem Cr (h:Pm g.threads.length p q) (hl:g.from_.length=g.threads.length) {t:Nat} (b:t<g.threads.length):(gu p q g).from_[p t]? =(g.from_[t]?).map (·.map<|jD p):=by
 show((List.range g.threads.length).map _)[p t]? =_;rw[gM_,List.getElem?_range<|h.lt t b];show some (((g.from_[q<|p t]?).getD []).map<|jD p)=_;rw[h.qp t b,gC (by rw[hl];exact b)];rfl
theorem ON (h:Pm g.threads.length p q) {id:cQ} (hi:uP g.threads.length id):ez (gu p q g) (jD p id)=ez g id:=by
 rcases hi.case with ⟨k,rfl⟩ | ⟨t,k,b,rfl⟩
 ·cases k<;>rfl
 rw[sc];cases k with
 | negSucc k=>rfl
 | ofNat k=>rw[jf,jf,vm h b]
theorem EG (h:Pm g.threads.length p q) {j:Nat} {l:List cU} (hj:(gu p q g).threads[j]? =some l):∃t,t<g.threads.length/\j=p t/\g.threads[t]? =some l:=by
 have hlt:=(gA.1 hj).1;rw[gD] at hlt;refine⟨q j,h.Bk j hlt,(h.pq j hlt).symm,?_⟩;rw[<-vm h (h.Bk j hlt),h.pq j hlt];exact hj
theorem tE {t k:Nat} {e:cU} {f:cQ} (h:xO g t k e f=true):bQ e (.ofNat g.init.length)=true/\cV g ⟨.ofNat (t+1),.ofNat k⟩ f=true:=by
 unfold xO at h;cases h1:bQ e (.ofNat g.init.length) with
 | false=>rw[h1] at h;cases h
 | true=>rw[h1] at h;exact⟨Z,h⟩
theorem nE {t k:Nat} {row:List cU} {e:cU} {f:cQ} (h1:g.threads[t]? =some row) (m:row[k]? =some e) (h:cV g ⟨.ofNat (t+1),.ofNat k⟩ f=true):(dR e=false/\f=⟨0,0⟩)∨(dR e=true/\∃w,ez g f=some w/\f≠⟨.ofNat (t+1),.ofNat k⟩/\bH w=true/\w.loc=e.loc/\w.write=e.read):=by
 have he:ez g ⟨.ofNat (t+1),.ofNat k⟩=some e:=by rw[jf,h1];exact m
 unfold cV at h;rw[he] at h;simp only[show vW (some e)=e from Z] at h;cases d:dR e with
 | false=>
  rw[d] at h;refine .inl ⟨Z,lE<|bR.1 (show bW f.ints (cQ.mk 0 0).ints=true from h)⟩
 | true=>
  rw[d] at h;cases hf:ez g f with
  | none=>rw[hf] at h;cases h
  | some w=>
   rw[hf] at h;simp only[show vW (some w)=w from Z,Bool.not_true,cond_false,Option.isSome_some,cond_true] at h;refine .inr ⟨Z,w,Z,?_⟩;cases b:bW [f.cq,f.index] [Int.ofNat (t+1),Int.ofNat k] with
   | true=>rw[b] at h;cases h
   | false=>
    rw[b] at h;cases h4:bH w with
    | false=>rw[h4] at h;cases h
    | true=>
     rw[h4] at h;cases h5:bM w.loc e.loc with
     | false=>rw[h5] at h;cases h
     | true=>
      rw[h5] at h;refine⟨fun e1=>kq.1 b (by rw[e1]),Z,?_,?_⟩
      ·rw[dv] at h5;exact of_decide_eq_true h5
      have h:bM w.write e.read=true:=h;rw[dv] at h;exact of_decide_eq_true h
theorem AJ {t k:Nat} {row:List cU} {e:cU} {f:cQ} (h1:g.threads[t]? =some row) (d:row[k]? =some e) (h:(dR e=false/\f=⟨0,0⟩)∨(dR e=true/\∃w,ez g f=some w/\f≠⟨.ofNat (t+1),.ofNat k⟩/\bH w=true/\w.loc=e.loc/\w.write=e.read)):cV g ⟨.ofNat (t+1),.ofNat k⟩ f=true:=by
 have he:ez g ⟨.ofNat (t+1),.ofNat k⟩=some e:=by rw[jf,h1];exact d
 unfold cV;rw[he];simp only[show vW (some e)=e from Z];rcases h with ⟨b,rfl⟩ | ⟨b,w,hf,hne,hw,hl,hv⟩
 ·rw[b];exact bR.2 Z
 have m:bW [f.cq,f.index] [Int.ofNat (t+1),Int.ofNat k]=false:=kq.2 fun e1=>hne (lE e1)
 rw[b,hf];simp only[show vW (some w)=w from Z,Bool.not_true,cond_false,Option.isSome_some,cond_true,m,hw,hl,hv,ey]
theorem rZ (b:eb g) {t:Nat} {f:List cQ} (hf:g.from_[t]? =some f) {x:cQ} (hx:x∈f):uP g.threads.length x:=by
 obtain⟨l,hl⟩:=bZ (show t<g.threads.length by rw[<-b.from_];exact(gA.1 hf).1);obtain⟨h1,d⟩:=b.rows t l f hl hf;obtain⟨k,hk⟩:=gO_ hx;obtain⟨e,he⟩:=bZ (show k<l.length by rw[<-h1];exact(gA.1 hk).1);rcases nE hl he (tE<|d k e x he hk).2 with ⟨_,rfl⟩ | ⟨_,w,hw,_⟩
 ·exact⟨0,Z,Nat.zero_le _⟩
 exact Ad hw
theorem tG (b:eb g) {ln:Nat} {r:List cQ} (d:g.order[ln]? =some r) {x:cQ} (hx:x∈r):∃(t k:Nat) (row:List cU) (e:cU),x=⟨.ofNat (t+1),.ofNat k⟩/\g.threads[t]? =some row/\row[k]? =some e/\bH e=true/\e.loc= .ofNat ln:=by
 have h:(x.ints,Int.ofNat ln)∈ij g.order 0:=gE.2 ⟨ln,r,x,d,hx,Z,by rw[nA_]⟩;obtain⟨t,k,row,e,h1,m,u,h4,h5⟩:=iX.1 (b.perm.mem_iff.2 h);rw[nA_] at h4;exact⟨t,k,row,e,lE h4,h1,m,u,h5.symm⟩
theorem iH (b:eb g) {ln:Nat} {r:List cQ} (d:g.order[ln]? =some r) {x:cQ} (hx:x∈r):uP g.threads.length x:=by
 obtain⟨t,k,row,e,rfl,h1,_⟩:=tG b d hx;exact⟨t+1,Z,(gA.1 h1).1⟩
theorem Cp (b:eb g) (h:Pm g.threads.length p q):gu q p (gu p q g)=g:=by
 have e1:(List.range (gu p q g).threads.length).map (fun j=>((gu p q g).threads[p j]?).getD [])=g.threads:=by
  rw[gD];refine List.ext_getElem? fun j=>?_
  rw[gM_]
  by_cases hj:j<g.threads.length
  ·rw[List.getElem?_range hj];show some (((gu p q g).threads[p j]?).getD [])=_;rw[vm h hj,gC hj];rfl
  rw[gN_ (by simp;omega),gN_ oM];rfl
 have e2:(List.range (gu p q g).threads.length).map (fun j=>(((gu p q g).from_[p j]?).getD []).map (jD q))=g.from_:=by
  rw[gD];refine List.ext_getElem? fun j=>?_
  rw[gM_]
  by_cases hj:j<g.threads.length
  ·rw[List.getElem?_range hj];show some ((((gu p q g).from_[p j]?).getD []).map<|jD q)=_;obtain⟨f,hf⟩:=bZ (show j<g.from_.length by rw[b.from_];exact hj);rw[Cr h b.from_ hj,hf];show some ((f.map<|jD p).map<|jD q)=_;rw[List.map_map];refine congrArg some ?_
   conv=>rhs;rw[<-List.map_id f]
   exact List.map_congr_left fun x hx=>sb h (rZ b hf hx)
  rw[gN_ (by simp;omega),gN_ (by rw[b.from_];omega)];rfl
 have m:(g.order.map (·.map<|jD p)).map (·.map<|jD q)=g.order:=by
  rw[List.map_map]
  conv=>rhs;rw[<-List.map_id g.order]
  refine List.map_congr_left fun r u=>?_
  obtain⟨ln,d⟩:=gO_ u;show(r.map<|jD p).map (jD q)=r;rw[List.map_map]
  conv=>rhs;rw[<-List.map_id r]
  exact List.map_congr_left fun x hx=>sb h (iH b d hx)
 show(⟨g.init,_,_,(g.order.map (·.map<|jD p)).map (·.map<|jD q)⟩:XG)=g
 rw[e1,e2,m]
theorem HQ {ln:Nat}:∀{r:List cQ},eH ln (r.map<|jD p)=(eH ln r).map fun x=>((jD p ⟨x.1.headD 0,(x.1.drop 1).headD 0⟩).ints,x.2):=by
 intro r;unfold eH;rw[List.map_map,List.map_map];rfl
theorem Gg:∀{o:List (List cQ)} {ln:Nat},ij (o.map (·.map<|jD p)) ln=(ij o ln).map fun x=>((jD p ⟨x.1.headD 0,(x.1.drop 1).headD 0⟩).ints,x.2)
 | [],_=>rfl
 | r::o,ln=>by
  show eH ln (r.map<|jD p)++ij (o.map (·.map<|jD p)) (ln+1)=(eH ln r++ij o (ln+1)).map _
  rw[List.map_append,HQ,Gg]
theorem yW (d:eb g) (h:Pm g.threads.length p q):eb (gu p q g):=by
 refine⟨by rw[gD];exact d.threads,d.init,fun j l hj=>?_,by rw[HM,gD],?_,fun j l f hj hf=>?_,?_⟩
 ·obtain⟨t,_,_,C⟩:=EG h hj;exact d.short t l C
 ·show(g.order.map _).length=_;rw[lM_];exact d.order
 ·obtain⟨t,htn,rfl,C⟩:=EG h hj;rw[Cr h d.from_ htn] at hf;obtain⟨T,K,rfl⟩:=oM_.1 hf;obtain⟨h1,A⟩:=d.rows t l T C K;refine⟨by rw[lM_];exact h1,fun k e x he hx=>?_⟩;rw[gM_] at hx;obtain⟨U,L,rfl⟩:=oM_.1 hx;obtain⟨m,h4⟩:=tE (A k e U he L);refine Ka m<|AJ hj he ?_;rcases nE C he h4 with ⟨h5,rfl⟩ | ⟨h5,w,F,W,X⟩
  ·exact .inl ⟨h5,Z⟩
  refine .inr ⟨h5,w,by rw[ON h<|Ad F];exact F,fun e1=>W ?_,X⟩;exact Gc h (Ad F) ⟨t+1,Z,htn⟩ e1
 have M:(ij (gu p q g).order 0).Nodup:=by
  show(ij (g.order.map (·.map<|jD p)) 0).Nodup
  rw[Gg];refine List.pairwise_map.2 ((d.perm.nodup_iff.1 kU).imp_of_mem fun {a b} ha hb hne e=>hne ?_);obtain⟨la,ra,ia,h1,A,m,h4⟩:=gE.1 (show(a.1,a.2)∈ij g.order 0 from ha);obtain⟨lb,rb,ib,u,G,E,I⟩:=gE.1 (show(b.1,b.2)∈ij g.order 0 from hb);obtain⟨a1,a2⟩:=a;obtain⟨b1,b2⟩:=b;dsimp only at m h4 E I;subst m;subst E;have e1:(jD p ia).ints=(jD p ib).ints:=congrArg Prod.fst e;have e2:a2=b2:=congrArg Prod.snd e;rw[Gc h (iH d h1 A) (iH d u G)<|lE e1,e2]
 refine(List.perm_ext_iff_of_nodup kU M).2 fun⟨a,v⟩=>?_
 have Q:∀{ln:Nat} {r:List cQ},g.order[ln]? =some r->(gu p q g).order[ln]? =some (r.map<|jD p):=fun {ln r} hr=>by
  show(g.order.map _)[ln]? =_;rw[gM_,hr];rfl
 constructor
 ·intro hm;obtain⟨s,i,l,e,h1,A,m,h4,h5⟩:=iX.1 hm;obtain⟨t,htn,rfl,C⟩:=EG h h1;have F:(([.ofNat (0+t+1),.ofNat i]:List Int),v)∈ij g.order 0:=d.perm.mem_iff.1 (iX.2 ⟨t,i,l,e,C,A,m,Z,h5⟩);obtain⟨ln,r,id,u,G,E,I⟩:=gE.1 F;obtain rfl:(⟨.ofNat (t+1),.ofNat i⟩:cQ)=id:=lE (by rw[<-E,nA_];rfl);refine gE.2 ⟨ln,_,_,Q u,List.mem_map_of_mem G,?_,I⟩;rw[h4,nA_];rfl
 intro hm;obtain⟨ln,r,id,u,G,E,I⟩:=gE.1 hm;have u:(g.order.map (·.map<|jD p))[ln]? =some r:=u
 rw[gM_] at u;obtain⟨r0,R,rfl⟩:=oM_.1 u;obtain⟨x,hx,rfl⟩:=List.mem_map.1 G;obtain⟨t,k,row,e,rfl,h1,A,m,h4⟩:=tG d R hx;have htn:=(gA.1 h1).1;refine iX.2 ⟨p t,k,row,e,by rw[vm h htn];exact h1,A,m,by rw[E,nA_];rfl,by rw[I,h4,nA_]⟩
end
section
variable {F10 F36:Int->List UInt8}
theorem re {α β:Type} {f:α->List β} {k:Nat} (hk:∀x,(f x).length=k+1) (hf:∀x y,f x=f y->x=y):∀{l m:List α},l.flatMap f=m.flatMap f->l=m
 | [],[],_=>rfl
 | [],y::m,h=>by
  have:=congrArg List.length h;rw[List.flatMap_cons,lA_,hk,List.flatMap_nil,List.length_nil] at this;omega
 | x::l,[],h=>by
  have:=congrArg List.length h;rw[List.flatMap_cons,lA_,hk,List.flatMap_nil,List.length_nil] at this;omega
 | x::l,y::m,h=>by
  rw[List.flatMap_cons,List.flatMap_cons] at h;obtain⟨h1,b⟩:=List.append_inj h (by rw[hk,hk]);rw[hf x y h1,re hk hf b]
def Iy (F10 F36:Int->List UInt8) (x:cU×cQ):List (List UInt8):=[F10 x.1.kind,F10 x.1.loc,F10 x.1.order,F10 x.2.cq,F10 x.2.index,F36 x.1.read,F36 x.1.write]
def PJ (F10:Int->List UInt8) (id:cQ):List (List UInt8):=[F10 id.cq,F10 id.index]
def AA (F10 F36:Int->List UInt8) (g:XG):List (List<|List UInt8):=(g.threads.zip g.from_).map (fun x=>(x.1.zip x.2).flatMap (Iy F10 F36))++g.order.map fun r=>r.flatMap (PJ F10)
def GU (F10 F36:Int->List UInt8) (g:XG):List UInt8:=gW 44 (g.init.map F36)++jV 47 ((AA F10 F36 g).map<|gW 44)
theorem Me (m:∀x y,F10 x=F10 y->x=y) (u:∀x y,F36 x=F36 y->x=y) (x y:cU×cQ) (h:Iy F10 F36 x=Iy F10 F36 y):x=y:=by
 obtain⟨⟨a,b,c,d,e⟩,⟨f,i⟩⟩:=x;obtain⟨⟨a',b',c',d',e'⟩,⟨f',i'⟩⟩:=y;unfold Iy at h;simp only[List.cons.injEq,and_true] at h;obtain⟨h1,A,C,h4,h5,E,F⟩:=h;rw[m _ _ h1,m _ _ A,m _ _ C,m _ _ h4,m _ _ h5,u _ _ E,u _ _ F]
theorem Mq (b:∀x y,F10 x=F10 y->x=y) (x y:cQ) (h:PJ F10 x=PJ F10 y):x=y:=by
 obtain⟨f,i⟩:=x;obtain⟨f',i'⟩:=y;unfold PJ at h;simp only[List.cons.injEq,and_true] at h;rw[b _ _ h.1,b _ _ h.2]
theorem map_inj {α β:Type} {f:α->β} (hf:∀x y,f x=f y->x=y):∀{l m:List α},l.map f=m.map f->l=m
 | [],[],_=>rfl
 | [],_::_,h=>by cases h
 | _::_,[],h=>by cases h
 | x::l,y::m,h=>by
  rw[List.map_cons,List.map_cons] at h;obtain⟨h1,b⟩:=List.cons.inj h;rw[hf x y h1,map_inj hf b]
theorem CY (m:∀x y,F10 x=F10 y->x=y) (A:∀x y,F36 x=F36 y->x=y):∀{a c:List (List cU)} {b d:List (List cQ)},b.length=a.length->d.length=c.length->(∀(i:Nat) l f,a[i]? =some l->b[i]? =some f->f.length=l.length)->(∀(i:Nat) l f,c[i]? =some l->d[i]? =some f->f.length=l.length)->
  (a.zip b).map (fun x=>(x.1.zip x.2).flatMap (Iy F10 F36))=(c.zip d).map (fun x=>(x.1.zip x.2).flatMap (Iy F10 F36))->a=c/\b=d
 | [],[],[],[],_,_,_,_,_=>⟨Z,Z⟩
 | [],_::_,[],_::_,_,_,_,_,h=>by cases h
 | _::_,[],_::_,[],_,_,_,_,h=>by cases h
 | x::a,y::c,u::b,v::d,C,E,h1,G,h=>by
  rw[List.zip_cons_cons,List.zip_cons_cons,List.map_cons,List.map_cons] at h;obtain⟨F,I⟩:=List.cons.inj h;have F:(x.zip u).flatMap (Iy F10 F36)=(y.zip v).flatMap (Iy F10 F36):=F;have e:=re (k:=6) (fun _=>Z) (Me m A) F;have hu:=h1 0 x u Z Z;have hv:=G 0 y v Z Z
  have e1:x=y:=by
   have:=congrArg (List.map Prod.fst) e;rwa[List.map_fst_zip oM,List.map_fst_zip oM] at this
  have e2:u=v:=by
   have:=congrArg (List.map Prod.snd) e;rwa[List.map_snd_zip oM,List.map_snd_zip oM] at this
  obtain⟨K,L⟩:=CY m A (a:=a) (c:=c) (b:=b) (d:=d) (by simpa using C) (by simpa using E) (fun i l f hl hf=>h1 (i+1) l f (by simpa using hl) (by simpa using hf)) (fun i l f hl hf=>G (i+1) l f (by simpa using hl) (by simpa using hf)) I;exact⟨by rw[e1,K],by rw[e2,L]⟩
 | [],_,_::_,_,h,_,_,_,_=>by simp at h
 | _::_,_,[],_,h,_,_,_,_=>by simp at h
 | _,[],_,_::_,_,h,_,_,_=>by simp at h
 | _,_::_,_,[],_,h,_,_,_=>by simp at h
theorem Ig (C:∀x y,F10 x=F10 y->x=y) (E:∀x y,F36 x=F36 y->x=y) (m:∀x,44∉F10 x/\47∉F10 x) (u:∀x,44∉F36 x/\47∉F36 x) {g g':XG} (F:eb g) (A:eb g') (hl:g.threads.length=g'.threads.length) (h:GU F10 F36 g=GU F10 F36 g'):g=g':=by
 have hp:∀g:XG,∀p∈AA F10 F36 g,∀w∈p,(44:UInt8)∉w/\(47:UInt8)∉w:=fun g p hp w hw=>by
  rcases List.mem_append.1 hp with hp | hp
  ·obtain⟨x,_,rfl⟩:=List.mem_map.1 hp;obtain⟨y,_,hy⟩:=List.mem_flatMap.1 hw;unfold Iy at hy;simp only[mQ_,List.not_mem_nil,or_false] at hy;rcases hy with rfl | rfl | rfl | rfl | rfl | rfl | rfl
   ·exact m _
   ·exact m _
   ·exact m _
   ·exact m _
   ·exact m _
   ·exact u _
   exact u _
  obtain⟨r,_,rfl⟩:=List.mem_map.1 hp;obtain⟨y,_,hy⟩:=List.mem_flatMap.1 hw;unfold PJ at hy;simp only[mQ_,List.not_mem_nil,or_false] at hy;rcases hy with rfl | rfl<;>exact m _
 have hi:∀g:XG,∀w∈g.init.map F36,(44:UInt8)∉w/\(47:UInt8)∉w:=fun g w hw=>by
  obtain⟨x,_,rfl⟩:=List.mem_map.1 hw;exact u x
 obtain⟨e1,e2⟩:=Lf (c:=(44:UInt8)) (d:=47) (by decide) (hi g) (hi g') (hp g) (hp g') h
 have hz:((g.threads.zip g.from_).map fun x=>(x.1.zip x.2).flatMap (Iy F10 F36)).length=((g'.threads.zip g'.from_).map fun x=>(x.1.zip x.2).flatMap (Iy F10 F36)).length:=by
  rw[lM_,lM_,List.length_zip,List.length_zip,F.from_,A.from_,hl]
 obtain⟨M,Q⟩:=List.append_inj e2 hz;obtain⟨K,L⟩:=CY C E F.from_ A.from_ (fun i l f G I=>(F.rows i l f G I).1) (fun i l f G I=>(A.rows i l f G I).1) M;have e7:=map_inj (fun x y=>re (k:=1) (fun _=>Z) (Mq C)) Q;have e8:=map_inj E e1;obtain⟨a,b,c,d⟩:=g;obtain⟨a',b',c',d'⟩:=g';dsimp only at K L e7 e8;rw[K,L,e7,e8]
end
section
variable {P:Program} {G:Cx} {V:N} {K:KP} {L:Own}
theorem zC {α:Type} {m e:Nat} {R:α->List J->Prop} {u:J} {ts:Array TypeId} {t:TypeId} (A:St V K L) (hx:bG K m R [] u) (b:∀x vs,R x vs->bO vs=true)
  (C:ts[0]? =some t) (hu:P.underlying t=some (.slice e)) (d:nh P e m=true) (E:dt P ts[1]? =true):eR P V ts .au u= .val .au V:=by
 obtain⟨news,F,s2,I,s4⟩:=qi A hx b;unfold nh at d;split at d
 ·rename_i j hj;simp only[bA_] at d;obtain⟨M,T,U,W⟩:=d;have hm:j.size=m:=nB M;subst hm;have hz:((P.info? e).any fun j=>(j.zero.bind nP).any fun z=>(cd z).any fun cs=>Nat.beq (di cs) j.size)=true:=by rw[hj];exact W
  unfold eR;rw[C];dsimp only;rw[hu];dsimp only;rw[hj] at hz⊢;dsimp only;rw[E,T,U];simp only[Bool.and_self,cond_true];rw[F];dsimp only;rw[I,show Nat.ble ([]:List α).length 1048576=true from Z,hz]
  simp_all
 cases d
theorem tH {α:Type} {m e:Nat} {R:α->List J->Prop} {l l2:List α} {u U:J} {M:Own} {ts:Array TypeId} {t:TypeId} (ho:cS m e R l u M) (aq:St V K (M++L))
  (hx:bG K m R l2 U) (d:∀x vs,R x vs->bO vs=true) (W:l.length+l2.length<=1000000)
  (A:ts[0]? =some t) (hu:P.underlying t=some (.slice e)) (C:nh P e m=true) (E:dt P ts[1]? =true):
  ∃V' u' M',eR P V ts u U= .val u' V'/\cS m e R (l++l2) u' M'/\St V' K (M'++L):=by
 rcases ho with ⟨rfl,rfl,rfl⟩ | ⟨b,c,cells,e',rfl,rfl,X,h4,h5,h6⟩
 ·cases l2 with
  | nil=>exact⟨V,_,[],zC aq hx d A hu C E,.inl ⟨Z,Z,Z⟩,aq⟩
  | cons a l2=>
   obtain⟨news,F,I,T⟩:=zD (P:=P) aq hx d (by simp at W⊢;omega) (by simp) A hu C E;exact⟨_,_,[(V.next,.row news e false)],F,.inr ⟨_,_,news,e,Z,Z,I,T,.inr ⟨Z,Z⟩,by simp at W⊢;omega⟩,aq.alloc (.row news e false)⟩
 obtain⟨V',b',c',news,e2,F,I,T,k4,k5⟩:=Ds (P:=P) aq hx d oM X oM h5 A hu C E;exact⟨V',_,[(b',.row (cells++news) e2 false)],F,Kj X h4 T k4 Z k5 oM,I⟩
theorem y6 {α:Type} {m e:Nat} {R:α->List J->Prop} {l l2:List α} {u d:J} {M:Own} {bv ev:Nat} {cv:List J} {ts:Array TypeId} {t:TypeId} (A:cS m e R l u M) (aq:St V K ((bv,.row cv ev false)::(M++L)))
  (hx:bG (K.add bv (.row cv ev false)) m R l2 d) (b:∀x vs,R x vs->bO vs=true) (C:l.length+l2.length<=1000000)
  (E:ts[0]? =some t) (hu:P.underlying t=some (.slice e)) (F:nh P e m=true) (I:dt P ts[1]? =true):
  ∃V' u' M',eR P V ts u d= .val u' V'/\cS m e R (l++l2) u' M'/\St V' K (M'++L):=by
 obtain⟨V',u',M',h1,T,h4⟩:=tH A aq.rD hx b C E hu F I;exact⟨V',u',M',h1,T,h4.weaken<|KP.wC _ _ _⟩
theorem Ak {α:Type} {m b e:Nat} {ro:Bool} {R:α->List J->Prop} {x:α} {vs:List J} (hm:vs.length=m) (hR:R x vs) (hk:K b (.row vs e ro)):bG K m R [x] (.slice b 0 1 (.known 1)):=by
 refine .inr ⟨b,0,.known 1,vs,e,ro,Z,.inr ⟨1,Z,nR_ _⟩,hk,by simp[hm],by simp,fun i y hy=>?_⟩;cases i with
 | zero=>
  grind
 | succ i=>simp at hy
theorem ej {α:Type} {m b e:Nat} {R:α->List J->Prop} {x:α} {vs:List J} (hm:vs.length=m) (d:R x vs):bG (K.add b (.row vs e false)) m R [x] (.slice b 0 1 (.known 1)):=Ak hm d (.inr ⟨Z,Z⟩)
theorem AS {α:Type} {m e k:Nat} {kk:IntKind} {R:α->List J->Prop} {la:List α} {v:J} {ty:TypeId} {ev:Operand->Option J} {xo lo:Operand} (h:bG K m R la v) (hk:k<=la.length) (hu:P.underlying ty=some (.slice e)) (hj:(P.info? e).map (·.size)=some m) (hx:ev xo=some v) (hh:ev lo=some (.int kk (.ofNat k))):
  ∃w,fy P ev ty xo (some lo) none none=some w/\bG K m R (la.drop k) w:=by
 cases hq:P.info? e with
 | none=>simp_all
 | some j=>
 rw[hq] at hj;have hj:j.size=m:=by simpa using hj
 subst hj;have hlen:(la.drop k).length=la.length-k:=lD_ ..
 have hb:∀y,k<=y->dW ev lo y=some k:=fun y hy=>by
  unfold dW;rw[hh]
  grind [nE_]
 rcases h with ⟨rfl,rfl⟩ | ⟨b,off,c,cells,e',ro,rfl,E,u,h4,h5,h6⟩
 ·obtain rfl:k=0:=by simpa using hk
  refine⟨.au,?_,.inl ⟨Z,Z⟩⟩;unfold fy;rw[hu,hx];dsimp only;unfold cO
  simp_all
 have hle:k*j.size<=la.length*j.size:=nM_ _ hk;have aa:(la.length-k)*j.size=la.length*j.size-k*j.size:=Nat.sub_mul ..
 have C:∀(i:Nat) (x:α),(la.drop k)[i]? =some x->R x ((cells.drop (off+k*j.size+i*j.size)).take j.size):=fun i x d=>by
  grind
 rcases E with rfl | ⟨cp,rfl,ab⟩
 ·refine⟨.slice b (off+k*j.size) (la.length-k) (.upto j.size),?_,.inr ⟨b,_,_,cells,e',ro,by rw[hlen],.inl Z,u,by rw[hlen];omega,by rw[hlen];omega,C⟩⟩
  grind [fy,cO,Nat.beq_refl]
 refine⟨.slice b (bif Nat.beq cp k then off else off+k*j.size) (la.length-k) (.known (cp-k)),?_,?_⟩
 ·unfold fy;rw[hu,hx];dsimp only;unfold cutAt cO
  grind [cut]
 cases A:Nat.beq cp k with
 | false=>exact .inr ⟨b,_,_,cells,e',ro,by rw[hlen];rfl,.inr ⟨cp-k,Z,by rw[hlen];omega⟩,u,by rw[hlen];omega,by rw[hlen];omega,C⟩
 | true=>
  have e1:=nB A;have hd:la.drop k= []:=List.drop_eq_nil_of_le oM;rw[hd];exact .inr ⟨b,off,_,cells,e',ro,by grind,.inr ⟨cp-k,Z,by simp⟩,u,by simp;omega,by simp,fun i x d=>by simp at d⟩
end
section
variable {P:Program} {G:Cx} {n:Nat} {t:PT J} {V:N} {K:KP} {L:Own} {Q:Ex->PT J->N->Prop} {ops:Array Oper} {o:Oper} {l:List Oper} {lp:List (Nat×List Nat)} {ix:Nat} {rc:List Nat}
theorem uA {α:Type} {m e k:Nat} {kk:IntKind} {R:α->List J->Prop} {la:List α} {v:J} {ty:TypeId} {xo lo:Operand} {t':J->PT J} (h:bG K m R la v) (hk:k<=la.length) (hw:bF ops t o=some true) (b:o.op= .slice ty xo (some lo) none none)
  (hu:P.underlying ty=some (.slice e)) (hj:(P.info? e).map (·.size)=some m) (hx:bn G t xo=some v) (hh:bn G t lo=some (.int kk (.ofNat k))) (hp:∀v,dA t n o.dst v=some (t' v))
  (hc:∀w,bG K m R (la.drop k) w->bP P G ops n l (t' w) V Q):bP P G ops n (o::l) t V Q:=by
 obtain⟨w,h1,d⟩:=AS (P:=P) h hk hu hj hx hh;refine Y hw ?_ (hp w)<|hc w d;rw[b];exact bD Z h1
theorem HV {α:Type} {m e k:Nat} {kk:IntKind} {R:α->List J->Prop} {la:List α} {v:J} {ty:TypeId} {xo hi:Operand} {t':J->PT J} (h:bG K m R la v) (hk:k<=la.length) (b:ops[ix]? =some o) (hw:bF ops t o=some true) (d:o.op= .slice ty xo none (some hi) none)
  (hu:P.underlying ty=some (.slice e)) (hj:(P.info? e).map (·.size)=some m) (hx:bn G t xo=some v) (hh:bn G t hi=some (.int kk (.ofNat k))) (hp:∀v,dA t n o.dst v=some (t' v))
  (hc:∀w,bG K m R (la.take k) w->cE P G ops n lp (t' w) V Q):cE P G ops n ((ix,[])::lp) t V Q:=by
 obtain⟨w,h1,u⟩:=Fa (P:=P) h hk hu hj hx hh;refine aj b hw ?_ (hp w)<|hc w u;rw[d];exact bD Z h1
theorem tD {α:Type} {m e:Nat} {R:α->List J->Prop} {la l2:List α} {u F:J} {M:Own} {ty:TypeId} {cl:Call} {so xo:Operand} {t':J->PT J} (T:cS m e R la u M) (U:St V K (M++L)) (hx:bG K m R l2 F) (b:∀x vs,R x vs->bO vs=true) (W:la.length+l2.length<=1000000)
  (hw:bF ops t o=some true) (X:o.op= .call cl) (A:cl.callee= .builtin .append) (d:cl.args.toList= [so,xo]) (ht:cl.argTypes[0]? =some ty) (C:bn G t so=some u) (E:bn G t xo=some F) (hp:∀v,dA t n o.dst v=some (t' v))
  (h:∀(V':N) (u':J) (M':Own),cS m e R (la++l2) u' M'->St V' K (M'++L)->bP P G ops n l (t' u') V' Q) (hu:P.underlying ty=some (.slice e):=by kernel_rfl) (ha:nh P e m=true:=by kernel_rfl) (I:dt P cl.argTypes[1]? =true:=by kernel_rfl):bP P G ops n (o::l) t V Q:=by
 obtain⟨V',u',M',k1,k2,k3⟩:=tH (P:=P) T U hx b W ht hu ha I;refine Y hw ?_ (hp _)<|h V' u' M' k2 k3;rw[X];exact iL A d C E I k1
theorem fY {α:Type} {m e:Nat} {R:α->List J->Prop} {la l2:List α} {u F:J} {M:Own} {bv ev:Nat} {cv:List J} {ty:TypeId} {cl:Call} {so xo:Operand} {t':J->PT J} (T:cS m e R la u M) (U:St V K ((bv,.row cv ev false)::(M++L))) (hx:bG (K.add bv (.row cv ev false)) m R l2 F) (b:∀x vs,R x vs->bO vs=true) (W:la.length+l2.length<=1000000)
  (hw:bF ops t o=some true) (X:o.op= .call cl) (A:cl.callee= .builtin .append) (d:cl.args.toList= [so,xo]) (ht:cl.argTypes[0]? =some ty) (C:bn G t so=some u) (E:bn G t xo=some F) (hp:∀v,dA t n o.dst v=some (t' v))
  (h:∀(V':N) (u':J) (M':Own),cS m e R (la++l2) u' M'->St V' K (M'++L)->bP P G ops n l (t' u') V' Q) (hu:P.underlying ty=some (.slice e):=by kernel_rfl) (ha:nh P e m=true:=by kernel_rfl) (I:dt P cl.argTypes[1]? =true:=by kernel_rfl):bP P G ops n (o::l) t V Q:=by
 obtain⟨V',u',M',k1,k2,k3⟩:=y6 (P:=P) T U hx b W ht hu ha I;refine Y hw ?_ (hp _)<|h V' u' M' k2 k3;rw[X];exact iL A d C E I k1
theorem Ax {α:Type} {m e:Nat} {R:α->List J->Prop} {la l2:List α} {u I:J} {M:Own} {ty:TypeId} {cl:Call} {so xo:Operand} {t':J->PT J} (U:cS m e R la u M) (W:St V K (M++L)) (hx:bG K m R l2 I) (b:∀x vs,R x vs->bO vs=true) (X:la.length+l2.length<=1000000)
  (A:ops[ix]? =some o) (hw:bF ops t o=some true) (ho:o.op= .call cl) (C:cl.callee= .builtin .append) (d:cl.args.toList= [so,xo]) (ht:cl.argTypes[0]? =some ty) (E:bn G t so=some u) (F:bn G t xo=some I) (hp:∀v,dA t n o.dst v=some (t' v))
  (h:∀(V':N) (u':J) (M':Own),cS m e R (la++l2) u' M'->St V' K (M'++L)->dc P G ops (t' u') V' rc=true/\cE P G ops n lp (t' u') V' Q) (hu:P.underlying ty=some (.slice e):=by kernel_rfl) (ha:nh P e m=true:=by kernel_rfl) (T:dt P cl.argTypes[1]? =true:=by kernel_rfl):cE P G ops n ((ix,rc)::lp) t V Q:=by
 obtain⟨V',u',M',k1,k2,k3⟩:=tH (P:=P) U W hx b X ht hu ha T;refine kg A hw ?_ (hp _)<|h V' u' M' k2 k3;rw[ho];exact iL C d E F T k1
theorem lI {α:Type} {m e:Nat} {R:α->List J->Prop} {la l2:List α} {u I:J} {M:Own} {bv ev:Nat} {cv:List J} {ty:TypeId} {cl:Call} {so xo:Operand} {t':J->PT J} (U:cS m e R la u M) (W:St V K ((bv,.row cv ev false)::(M++L))) (hx:bG (K.add bv (.row cv ev false)) m R l2 I) (b:∀x vs,R x vs->bO vs=true) (X:la.length+l2.length<=1000000)
  (A:ops[ix]? =some o) (hw:bF ops t o=some true) (ho:o.op= .call cl) (C:cl.callee= .builtin .append) (d:cl.args.toList= [so,xo]) (ht:cl.argTypes[0]? =some ty) (E:bn G t so=some u) (F:bn G t xo=some I) (hp:∀v,dA t n o.dst v=some (t' v))
  (h:∀(V':N) (u':J) (M':Own),cS m e R (la++l2) u' M'->St V' K (M'++L)->dc P G ops (t' u') V' rc=true/\cE P G ops n lp (t' u') V' Q) (hu:P.underlying ty=some (.slice e):=by kernel_rfl) (ha:nh P e m=true:=by kernel_rfl) (T:dt P cl.argTypes[1]? =true:=by kernel_rfl):cE P G ops n ((ix,rc)::lp) t V Q:=by
 obtain⟨V',u',M',k1,k2,k3⟩:=y6 (P:=P) U W hx b X ht hu ha T;refine kg A hw ?_ (hp _)<|h V' u' M' k2 k3;rw[ho];exact iL C d E F T k1
end
section
variable {P:Program} {G:Cx} {n:Nat} {t:PT J} {V:N} {K:KP} {L:Own} {Q:Ex->PT J->N->Prop} {ops:Array Oper} {o:Oper} {l:List Oper}
def lT (P:Program) (G:Cx) (b:Pos) (args:List J) (V:N) (R:J->N->Prop):Prop:=
 ∃(K:Nat) (v:J) (V':N),(∀k,K<=k->lN (ea P G k) b args V= .ret v V')/\R v V'
theorem lT.mono {b:Pos} {args:List J} {R R':J->N->Prop} (h:lT P G b args V R) (hq:∀v V',R v V'->R' v V'):lT P G b args V R':=
 let ⟨K,v,V',h1,d⟩:=h;⟨K,v,V',h1,hq _ _ d⟩
def iQ (st:LoopState) (tm:PT J) (m:Nat) (ps:List Nat) (sa bd:Code) (bm:Pos):cu:=.loop st none tm m ps sa bd bm
theorem Jm {b bm:Pos} {args:List J} {R:J->N->Prop} {tm:PT J} {m:Nat} {ps:List Nat} {sa bd:Code} {t:PT J} (hl:V.m.get b=some (iQ .ready tm m ps sa bd bm)) (hp:tJ m ps args tm=some t)
  (h:Ev P G sa m t V fun e A d=>e= .normal/\d.m.get b=some (iQ .ready tm m ps sa bd bm)/\Ev P G bd m A (d.setObj b<|iQ .busy tm m ps sa bd bm) fun e _ u=>e= .normal/\u.m.get b=some (iQ .busy tm m ps sa bd bm)/\R (.bool true) (u.setObj b<|iQ .ready tm m ps sa bd bm)):lT P G b args V R:=by
 obtain⟨C,e1,A,d,h1,rfl,E,F,e2,t2,u,I,rfl,h4,h5⟩:=h;refine⟨max C F,.bool true,_,fun k hk=>?_,h5⟩;unfold lN;rw[hl];dsimp only[iQ];rw[hp];dsimp only;rw[h1 [] (some b) k oM];dsimp only;rw[E];dsimp only[iQ];have:=I [] (some b) k oM;unfold iQ at this h4;rw[this];dsimp only[yR];simp only[cond_false];rw[h4];rfl
theorem NB {ev:Operand->Option J} {c:Call} {f:Operand} {b:Pos} {args:List J} (hc:c.callee= .value f) (hf:ev f=some (.yield b)) (d:tb ev c.args.toList=some args):dM P G ev V (.call c)= .round b args V:=by
 refine iy (by simp[kindOf,hc]) ?_;simp only[fw,hc,hf,d,vJ]
theorem MD {b:Pos} {args:List J} {t':J->PT J} {R:J->N->Prop} (hw:bF ops t o=some true) (hv:dM P G (bn G t) V o.op= .round b args V) (hp:∀v,dA t n o.dst v=some (t' v))
  (hc:lT P G b args V R) (h:∀v V',R v V'->bP P G ops n l (t' v) V' Q):bP P G ops n (o::l) t V Q:=by
 obtain⟨m,v,V',h1,u⟩:=hc;obtain⟨A,e,C,E,F,h4⟩:=h v V' u;refine⟨max m A,e,C,E,fun d k hk=>?_,h4⟩;show ig P G (ea P G k) true ops n o t V (se P G (ea P G k) ops n d l)=_;have e1:=h1 k oM;have e2:=F d k oM;unfold ig;rw[hw];dsimp only;rw[hv];dsimp only[kA];rw[e1];dsimp only;rw[hp];exact e2
def LG (P:Program) (G:Cx) (c:Code) (n:Nat) (t:PT J) (V:N) (Q:List DE->Ex->PT J->N->Prop):Prop:=
 ∃(K:Nat) (D_:List DE) (e:Ex) (t':PT J) (V':N),(∀d k,K<=k->ea P G k c t n d none V= .ok e t' (D_++d) V')/\Q D_ e t' V'
theorem jL {c:Code} {Q:List DE->Ex->PT J->N->Prop} (h:Ev P G c n t V (Q [])):LG P G c n t V Q:=by
 obtain⟨K,e,t',V',h1,b⟩:=h;exact⟨K,[],e,t',V',fun d k hk=>h1 d none k hk,b⟩
def Lg (P:Program) (G:Cx) (n:Nat) (b:Code) (Q:List DE->Ex->PT J->N->Prop) (D_:List DE) (e:Ex) (t:PT J) (V:N):Prop:=
 match e with
 | .normal=>LG P G b n t V fun D2=>Q (D2++D_)
 | e=>Q D_ e t V
theorem gL {a b:Code} {Q:List DE->Ex->PT J->N->Prop} (h:LG P G a n t V (Lg P G n b Q)):LG P G (.seq a b) n t V Q:=by
 obtain⟨K,D_,e,t',V',h1,m⟩:=h
 have step:∀d k,K<=k->ea P G (k+1) (.seq a b) t n d none V=uS (.ok e t' (D_++d) V') (fun t d V=>ea P G k b t n d none V):=fun d k hk=>by
  show uS (ea P G k a t n d none V) (fun t d V=>ea P G k b t n d none V)=_;rw[h1 d k hk]
 cases e with
 | normal=>
  obtain⟨u,A,e2,C,E,F,h4⟩:=m;refine⟨max K u+1,A++D_,e2,C,E,fun d k hk=>?_,h4⟩;obtain⟨j,rfl⟩:∃j,k=j+1:=⟨k-1,by omega⟩;rw[step d j oM,lQ_];exact F (D_++d) j oM
 | _=>
  refine⟨K+1,D_,_,t',V',fun d k hk=>?_,m⟩;obtain⟨j,rfl⟩:∃j,k=j+1:=⟨k-1,by omega⟩;rw[step d j oM];rfl
theorem ep {b:Code} {Q:List DE->Ex->PT J->N->Prop} {D_:List DE} (h:LG P G b n t V fun d=>Q (d++D_)):Lg P G n b Q D_ .normal t V:=h
theorem qk {b:Code} {Q:List DE->Ex->PT J->N->Prop} {D_:List DE} (h:Q D_ .ret t V):Lg P G n b Q D_ .ret t V:=h
theorem yG {id:Nat} {b:Code} {Q:List DE->Ex->PT J->N->Prop} (h:LG P G b n t V fun D_ e t' V'=>e= .normal/\Q D_ .normal t' V'):LG P G (.block id b) n t V Q:=by
 obtain⟨K,D_,e,t',V',h1,rfl,m⟩:=h;refine⟨K+1,D_,.normal,t',V',fun d k hk=>?_,m⟩;obtain⟨j,rfl⟩:∃j,k=j+1:=⟨k-1,by omega⟩;show q9 id (ea P G j b t n d none V)=_;rw[h1 d j oM];rfl
theorem Hr {g:Operand} {ps:Array Tmp} {sa bd:Code} {f:Nat} {fi ca:List J} {Q:List DE->Ex->PT J->N->Prop} (aq:St V K L) (E:bn G t g=some (.func f fi ca)) (b:qv P f=true)
  (h:∀(bm bl:Pos) (A:N),St A K ((bl,iQ .ready t n ps.toList sa bd bm)::(bm,.mark)::L)->aW P G f (fi++(.yield bl::ca)) A fun _ u=>u.m.get bl=some (iQ .ready t n ps.toList sa bd bm)/\Q [.mark bm] .normal t (u.setObj bl<|iQ .exhausted t n ps.toList sa bd bm)):LG P G (.rangeFunc g ps sa bd) n t V Q:=by
 obtain⟨F,v,u,h1,C,I⟩:=h V.next (V.alloc .mark).next ((V.alloc .mark).alloc<|iQ .ready t n ps.toList sa bd V.next) ((aq.alloc .mark).alloc _);refine⟨F+1,[.mark V.next],.normal,t,_,fun d k hk=>?_,I⟩;obtain⟨j,rfl⟩:∃j,k=j+1:=⟨k-1,by omega⟩;show tK P G (ea P G j) g ps sa bd t n d none V=_;unfold tK wM;dsimp only;rw[E];dsimp only;rw[b,dH];have e1:=h1 j oM;unfold iQ at e1 C;simp only[cond_true];rw[e1];dsimp only;unfold DO;rw[C];rfl
def P7 (P:Program) (fn:Func) (R:J->N->Prop) (D_:List DE) (e:Ex) (t:PT J) (V:N):Prop:=
 (e= .normal∨e= .ret)/\match D_ with
  | []=>∃v,dU P fn t V=some v/\R v V
  | [.mark b]=>V.m.get b=some .mark/\∃v,dU P fn t (V.setObj b .dead)=some v/\R v (V.setObj b .dead)
  | _=>False
theorem vY (u:Plain G) {f:Nat} {fn:Func} {c:Code} {args:List J} {R:J->N->Prop} (hf:P.funcs[f]? =some fn) (hb:fn.body=some c) (E:qA fn.ntmps args=some t)
  (h:LG P G c fn.ntmps t V (P7 P fn R)) (hk:Nat.beq f JF=false:=by rfl) (hl:HJ f=false:=by rfl) (F:H7 f=false:=by rfl):aW P G f args V R:=by
 obtain⟨K,D_,e,t',V',h1,he,C⟩:=h
 have key:∃V'' v,(∀k,tw P G (ea P G k) D_ .ret V'=some (.ret,V''))/\dU P fn t' V''=some v/\R v V'':=by
  match D_,C with
  | [],⟨v,d,h4⟩=>exact⟨V',v,fun _=>Z,d,h4⟩
  | [.mark b],⟨d,v,h4,h5⟩=>
   refine⟨_,v,fun k=>?_,h4,h5⟩;show(match V'.m.get b with | some .mark=>some (Md.ret,V'.setObj b .dead) | _=>none)=_;rw[d]
 obtain⟨V'',v,d,h4,h5⟩:=key;refine⟨K,v,V'',fun k A=>?_,h5⟩;unfold kb;rw[u.h1 _ _ _ F];dsimp only;rw[u.h2 _ _ hl];dsimp only;rw[u.h4];dsimp only;rw[u.h5 _ hk];simp only[cond_false];unfold lV;rw[hf];dsimp only;rw[hb,E];dsimp only;have:=h1 [] k A;rw[List.append_nil] at this;rw[this];rcases he with rfl | rfl<;>
 ·dsimp only;unfold xW;rw[d k];dsimp only;rw[h4]
theorem yH {b bm:Pos} {args:List J} {R:J->N->Prop} {tm:PT J} {m:Nat} {ps:List Nat} {sa bd:Code} {t:PT J} (aq:St V K ((b,iQ .ready tm m ps sa bd bm)::L)) (hp:tJ m ps args tm=some t)
  (h:Ev P G sa m t V fun e A C=>e= .normal/\∃d,St C K ((b,iQ .ready tm m ps sa bd bm)::d)/\∀E,St E K ((b,iQ .busy tm m ps sa bd bm)::d)->Ev P G bd m A E fun e _ F=>e= .normal/\∃u,St F K ((b,iQ .busy tm m ps sa bd bm)::u)/\∀I,St I K ((b,iQ .ready tm m ps sa bd bm)::u)->R (.bool true) I):lT P G b args V R:=by
 refine Jm (aq.get 0 Z) hp<|h.mono fun e A C ⟨he,d,h1,T⟩=>⟨he,h1.get 0 Z,(T _<|h1.tO _).mono fun e _ F ⟨he,u,M,h4⟩=>⟨he,M.get 0 Z,h4 _<|M.tO _⟩⟩
theorem vX {g:Operand} {ps:Array Tmp} {sa bd:Code} {f:Nat} {fi ca:List J} {Q:List DE->Ex->PT J->N->Prop} (aq:St V K L) (F:bn G t g=some (.func f fi ca)) (d:qv P f=true)
  (h:∀(bm bl:Pos) (b:N),St b K ((bl,iQ .ready t n ps.toList sa bd bm)::(bm,.mark)::L)->aW P G f (fi++(.yield bl::ca)) b fun _ A=>∃m u,St A m ((bl,iQ .ready t n ps.toList sa bd bm)::u)/\∀C,St C m u->Q [.mark bm] .normal t C):LG P G (.rangeFunc g ps sa bd) n t V Q:=
 Hr aq F d fun bm bl b h1=>(h bm bl b h1).mono fun _ A ⟨m,u,E,I⟩=>⟨E.get 0 Z,I _ (E.tO _).pop⟩
theorem yF {fn:Func} {R:J->N->Prop} {bm:Pos} (aq:St V K ((bm,.mark)::L)) (h:∀V',St V' K L->∃v,dU P fn t V'=some v/\R v V'):P7 P fn R [.mark bm] .ret t V:=
 ⟨.inr Z,aq.get 0 Z,h _ (aq.tO _).pop⟩
theorem St.sG {V0:N} {M d:Own} (h0:St V0 K (M++d)) (h:St V (K.ml M) L):St V K (M++L) where
 kept b o hb:=by
  obtain⟨h1,m,u⟩:=h.kept b o (.inl hb);refine⟨h1,m,fun e he=>?_⟩;rcases List.mem_append.1 he with he | he
  ·exact(h0.kept b o hb).2.2 e (List.mem_append_left _ he)
  exact u e he
 own e he:=by
  rcases List.mem_append.1 he with he | he
  ·exact⟨(h.kept e.1 e.2 (.inr he)).1,(h.kept e.1 e.2 (.inr he)).2.1⟩
  exact h.own e he
 ne:=List.pairwise_append.2 ⟨(List.pairwise_append.1 h0.ne).1,h.ne,fun a A b hb e=>(h.kept a.1 a.2 (.inr A)).2.2 b hb e.symm⟩
theorem wZ {α:Type} (M O_ L:List α) (x a b c:α):(M++x::a::b::c::(O_++L)).Perm (a::c::(O_++(x::b::(M++L)))):=by
 classical
 rw[List.perm_iff_count];intro y;simp only[List.count_append,List.count_cons];omega
end
section
variable {P:Program} {G:Cx} {V:N} {K:KP} {L:Own}
def RB (c:Nat) (vs:List J):Prop:=vs= [.int .u8 (.ofNat c)]
def fE (s:List Nat):List J:=s.map fun c=>.int .u8 (.ofNat c)
theorem RB.leaf (c:Nat) (vs:List J) (h:RB c vs):bO vs=true:=by cases h;rfl
theorem om (s:List Nat):bO (fE s)=true:=by
 refine qY fun v hv=>?_
 obtain⟨c,_,rfl⟩:=List.mem_map.1 hv;rfl
theorem lj (s:List Nat):(fE s).length=s.length:=by simp[fE]
theorem QQ (V:N) (s:List Nat):jt V 1 (.str s)=some (s.length,fE s):=by
 show(bif Nat.beq 1 1 then some (di s,x8 (fun c=>J.int .u8 (Int.ofNat c)) s) else none)=_;rw[bT,kQ];rfl
theorem Ni {V:N} {b e c:Nat} {ro:Bool} (hb:V.m.get b=some (.row [.int .u8 (.ofNat c)] e ro)):jt V 1 (.slice b 0 1 (.known 1))=some ([c].length,fE [c]):=by
 show(match V.m.get b with | some (.row cells _ _)=>bif Nat.ble (0+1*1) (di cells) then some (1,takeN (dK cells 0) (1*1)) else none | _=>none)=_;rw[hb];rfl
def DH (E:Nat) (s:List Nat) (u:J) (M:Own):Prop:=(s= []/\u= .au/\M= [])∨(s≠[]/\s.length<=1000000/\∃b,u= .slice b 0 s.length (.upto 1)/\M= [(b,.row (fE s) E false)])
theorem DH.leaf {E:Nat} {s:List Nat} {u:J} {M:Own} (h:DH E s u M):cd u=some [u]/\fJ u=true:=by
 rcases h with ⟨_,rfl,_⟩ | ⟨_,_,b,rfl,_⟩<;>exact⟨rfl,rfl⟩
theorem IN {e:Nat} {s w:List Nat} {u U:J} {M:Own} {ts:Array TypeId} {t:TypeId} (E:DH e s u M) (aq:St V K (M++L)) (d:jt V 1 U=some (w.length,fE w)) (W:s.length+w.length<=1000000)
  (F:ts[0]? =some t) (hu:P.underlying t=some (.slice e)) (A:nh P e 1=true) (I:dt P ts[1]? =true):
  ∃V' u' M',eR P V ts u U= .val u' V'/\DH e (s++w) u' M'/\St V' K (M'++L):=by
 unfold nh at A;split at A
 case h_2=>cases A
 rename_i j hj;simp only[bA_] at A;obtain⟨X,R,T,a4⟩:=A;have hm:j.size=1:=nB X;have hz:((P.info? e).any fun j=>(j.zero.bind nP).any fun z=>(cd z).any fun cs=>Nat.beq (di cs) j.size)=true:=by rw[hj];exact a4
 have hw:Nat.ble w.length 1048576=true:=by rw[nE_];omega
 by_cases m:w= []
 ·subst m;refine⟨V,u,M,?_,by rw[List.append_nil];exact E,aq⟩;unfold eR;rw[F];dsimp only;rw[hu];dsimp only;rw[hj] at hz⊢;dsimp only;rw[I,R,T];simp only[Bool.and_self,cond_true,hm];rw[d];dsimp only;rw[om,hw];rw[hz];rcases E with ⟨_,rfl,_⟩ | ⟨_,_,b,rfl,_⟩<;>rfl
 have C:Nat.beq w.length 0=false:=by
  cases w with
  | nil=>exact absurd Z m
  | cons x w=>rfl
 rcases E with ⟨rfl,rfl,rfl⟩ | ⟨hs,aa,b,rfl,rfl⟩
 ·refine⟨_,.slice V.next 0 w.length (.upto 1),[(V.next,.row (fE w) e false)],?_,.inr ⟨m,by simp at W⊢;omega,V.next,Z,Z⟩,aq.alloc (.row (fE w) e false)⟩;unfold eR;rw[F];dsimp only;rw[hu];dsimp only;rw[hj] at hz⊢;dsimp only;rw[I,R,T];simp only[Bool.and_self,cond_true,hm];rw[d];dsimp only;rw[om,hw];rw[hz];simp only[Bool.and_self,cond_true,C,cond_false];rfl
 have hg:=aq.get 0 Z;refine⟨(V.drop b).alloc (.row (fE (s++w)) e false),.slice V.next 0 (s++w).length (.upto 1),[(V.next,.row (fE (s++w)) e false)],?_,.inr ⟨by simp[hs],by rw[lA_];omega,V.next,Z,Z⟩,St.xl aq _⟩;unfold eR;rw[F];dsimp only;rw[hu];dsimp only;rw[hj] at hz⊢;dsimp only;rw[I,R,T];simp only[Bool.and_self,cond_true,hm];rw[d];dsimp only;rw[om,hw];rw[hz];have ab:1<=w.length:=by cases w with | nil=>exact absurd rfl m | cons x w=>simp
 simp only[Bool.and_self,cond_true,C,cond_false,hg,bT,lj];rw[show Nat.beq 1 1=true from Z,show Nat.ble s.length 1048576=true from by rw[nE_];omega,show Nat.ble (0+s.length*1+w.length) s.length=false from by rw[<-Bool.not_eq_true,nE_];omega,show Nat.ble (0+s.length*1) s.length=true from by rw[nE_];omega,Nat.beq_refl];simp only[Bool.and_self,cond_true,Bool.and_false,cond_false];unfold grow;rw[dH,dp,dF,List.drop_zero,Nat.mul_one,<-lj s,List.take_length,lj,lA_];rw[show fE (s++w)=fE s++fE w from by simp[fE]];rfl
end
section
variable {P:Program} {G:Cx} {n:Nat} {t:PT J} {V:N} {K:KP} {L:Own} {Q:Ex->PT J->N->Prop} {ops:Array Oper} {o:Oper} {l:List Oper}
theorem J6 {e:Nat} {s w:List Nat} {u E:J} {M:Own} {ty:TypeId} {cl:Call} {so xo:Operand} {t':J->PT J} (I:DH e s u M) (R:St V K (M++L)) (d:jt V 1 E=some (w.length,fE w)) (T:s.length+w.length<=1000000)
  (hw:bF ops t o=some true) (U:o.op= .call cl) (m:cl.callee= .builtin .append) (b:cl.args.toList= [so,xo]) (W:cl.argTypes[0]? =some ty) (A:bn G t so=some u) (C:bn G t xo=some E) (hp:∀v,dA t n o.dst v=some (t' v))
  (h:∀(V':N) (u':J) (M':Own),DH e (s++w) u' M'->St V' K (M'++L)->bP P G ops n l (t' u') V' Q) (hu:P.underlying ty=some (.slice e):=by kernel_rfl) (X:nh P e 1=true:=by kernel_rfl) (F:dt P cl.argTypes[1]? =true:=by kernel_rfl):bP P G ops n (o::l) t V Q:=by
 obtain⟨V',u',M',k1,k2,k3⟩:=IN (P:=P) I R d T W hu X F;refine Y hw ?_ (hp _)<|h V' u' M' k2 k3;rw[U];exact iL m b A C F k1
end
section
variable {P:Program} {G:Cx} {ev:Operand->Option J} {V:N}
theorem PD {e:TypeId} {cs:List J} (hz:(eQ P e).bind cd=some cs) (b:qh P e=true):dM P G ev V (.alloc e)= .val (.ptr V.next 0) (V.alloc (.own cs e)):=by
 exact qo (op:=.alloc e) (mk:=.ptr) (ob:=.own cs e) Z (by simp only[eZ,hz,b,cond_true])
theorem ku {t:TypeId} {x:Operand} {b:Pos} {off:Nat} {cells:List J} {e:Nat} {v:J} (hx:ev x=some (.ptr b off)) (hb:V.m.get b=some (.own cells e)) (d:dN P t=some none) (hv:nth cells off=some v):dM P G ev V (.load t x)= .val v V:=by
 refine pE Z ?_;simp only[eY,hx,hb,d,hv]
theorem xM {t:TypeId} {m:Nat} {x y:Operand} {b:Pos} {off:Nat} {v:J} {cs cells cells':List J} {e:Nat} (hx:ev x=some (.ptr b off)) (hy:ev y=some v) (hc:cd v=some cs) (hb:V.m.get b=some (.own cells e)) (hj:(P.info? t).map (·.size)=some m) (hl:cs.length=m) (hle:off+m<=cells.length) (d:bO cs=true) (A:dB cs cells off=cells'):
  dM P G ev V (.store t x y)= .skip (V.setObj b (.own cells' e)):=by
 subst A;obtain⟨j,u,rfl⟩:=oM_.1 hj;refine iy Z ?_
 have h1:(Nat.beq (di cs) j.size && Nat.ble (off+j.size) (di cells) && bO cs)=true:=by
  rw[bA_,bA_,Nat.beq_eq,nE_,bT,bT];exact⟨⟨hl,hle⟩,d⟩
 simp only[fw,hx,hy,tQ,hc,hb,u,h1,cond_true]
theorem G7 {s d:TypeId} {x:Operand} {v:J} (h:eY P ev V (.convert s d x)=some v) (hk:kindOf P (.convert s d x)= .read):dM P G ev V (.convert s d x)= .val v V:=pE hk h
theorem KD {s d t:TypeId} {x:Operand} {b:Nat} {cells:List J} {e:Nat} {j:TypeInfo} (u:P.underlying s=some (.pointer t)) (hd:P.underlying d=some .unsafePointer) (hj:P.info? t=some j) (hz:Nat.beq j.size 0=false) (hx:ev x=some (.ptr b 0)) (hb:V.m.get b=some (.own cells e)) (hl:1<=cells.length):
  eY P ev V (.convert s d x)=some (.ptr b 0):=by
 simp only[eY,u,hd,hj,hz,hx,nC,hb,bT,cond_false];rw[show Nat.ble (Nat.succ 0) cells.length=true from by rw[nE_];exact hl];rfl
theorem KC {s d u:TypeId} {x:Operand} {b:Nat} {cells:List J} {e:Nat} (A:P.underlying s=some .unsafePointer) (hd:P.underlying d=some (.pointer u)) (hj:(P.info? u).isSome=true) (hx:ev x=some (.ptr b 0)) (hb:V.m.get b=some (.own cells e)) (hl:liesAt P P.depth e (cells.length/P.cellsOf e) 0 u 1=true):
  eY P ev V (.convert s d x)=some (.ptr b 0):=by
 simp only[eY,A,hd,hj,cond_true,nC,hx,hb,bT,hl]
theorem NF {c:Call} {f:Operand} {g:Nat} {v:J} (hc:c.callee= .value f) (hf:ev f=some (.func g [] [])) (b:tb ev c.args.toList=some [v]) (d:qv P g=false) (m:G.ov g=true) (u:isNe P g=true):dM P G ev V (.call c)= .val v V:=by
 refine iy (by simp[kindOf,hc]) ?_;simp only[fw,hc,hf,b,vJ,d,m,u,cond_true,cond_false];rfl
theorem uN {c:Call} {x:Operand} {u v:J} (hc:c.callee= .builtin .unsafeSliceData) (b:c.args.toList= [x]) (hx:ev x=some u) (hd:yB u=some v):dM P G ev V (.call c)= .val v V:=by
 refine iy (by simp[kindOf,hc]) ?_;have he:tb ev [x]=some [u]:=by unfold tb cM;simp only[hx]
 simp only[fw,hc,b,he,hd]
theorem zG {c:Call} {x y:Operand} {p n:J} {s:List Nat} {V':N} (hc:c.callee= .builtin .unsafeString) (b:c.args.toList= [x,y]) (hx:ev x=some p) (hy:ev y=some n) (h:xH P V c.argTypes[0]? p n=some (s,V')):dM P G ev V (.call c)= .val (.str s) V':=by
 refine iy (by simp[kindOf,hc]) ?_;have he:tb ev [x,y]=some [p,n]:=by unfold tb cM;simp only[hx,hy]
 simp only[fw,hc,b,he,h]
theorem rh:∀(s:List Nat),(∀c∈s,c<=255)->cM rU (fE s)=some s
 | [],_=>rfl
 | c::s,h=>by
  have h1:rU (.int .u8 (.ofNat c))=some c:=by
   show(bif Nat.ble c 255 then some c else none)=_;rw[show Nat.ble c 255=true from by rw[nE_];exact h c<|mS_ ..];rfl
  have h2:=rh s fun c hc=>h c (mC_ _ hc)
  show cM rU (.int .u8 (.ofNat c)::fE s)=_;unfold cM at h2⊢;dsimp only;rw[h1,h2]
theorem Nn {b E tp:Nat} {s:List Nat} {ro:Bool} (hu:P.underlying tp=some (.pointer E)) (hc:P.cellsOf E=1) (hb:V.m.get b=some (.row (fE s) E false)) (u:s≠[]) (hl:s.length<=1000000) (d:∀c∈s,c<=255):
  xH P V (some tp) (.ptr b 0) (.int .i64 (.ofNat s.length))=some (s,V.setObj b (.row (fE s) E true)):=by
 have h0:Nat.beq s.length 0=false:=by cases s with | nil=>exact absurd rfl u | cons x s=>rfl
 unfold xH;dsimp only;rw[h0,hu,hb];simp only[cond_false,hc,Nat.beq_refl,Bool.true_and,bT,lj];rw[show Nat.ble (0+s.length) s.length=true from by rw[nE_];omega,show Nat.ble s.length 1152921504606846976=true from by rw[nE_];omega];simp only[Bool.and_self,cond_true,dp,dF,List.drop_zero];rw[<-lj s,List.take_length,rh s d]
theorem zS {kk kl:IntKind} {lo hi:Operand} {k h n cap:Nat} (b:ev lo=some (.int kk (.ofNat k))) (d:ev hi=some (.int kl (.ofNat h))) (hk:k<=h) (hh:h<=cap):cO ev n cap (some lo) (some hi)=some (k,h):=by
 have hb:dW ev hi cap=some h:=by
  unfold dW;rw[d];dsimp only;rw[show Nat.ble h cap=true from by rw[nE_];exact hh];rfl
 have m:dW ev lo h=some k:=by
  unfold dW;rw[b];dsimp only;rw[show Nat.ble k h=true from by rw[nE_];exact hk];rfl
 unfold cO;dsimp only;rw[hb];dsimp only;rw[m]
theorem Dw {t:TypeId} {x lo hi:Operand} {s:List Nat} {k h:Nat} {kk kl:IntKind} (m:P.underlying t=some .string) (hx:ev x=some (.str s)) (b:ev lo=some (.int kk (.ofNat k))) (d:ev hi=some (.int kl (.ofNat h))) (hk:k<=h) (hh:h<=s.length):
  dM P G ev V (.slice t x (some lo) (some hi) none)= .val (.str ((s.drop k).take (h-k))) V:=by
 refine bD Z ?_;simp only[du,fy,m,hx,bT,zS (n:=s.length) b d hk hh,dp,dF]
end
end Go.Ev
namespace Go.Ev
def ft (b n:Nat):List Nat:=if h:n<b∨b<2 then [n] else ft b (n/b)++[n%b]
termination_by n
decreasing_by
 have h:¬(n<b∨b<2):=h;exact Nat.div_lt_self oM oM
def NO (b:Nat) (l:List Nat):Nat:=l.foldl (fun a d=>a*b+d) 0
theorem v8 {b:Nat}:∀(n:Nat),NO b (ft b n)=n:=by
 intro n;induction n using Nat.strongRecOn with
 | _ n ih=>
  unfold ft;split
  ·show 0*b+n=n;omega
  rename_i h;have h1:=ih (n/b) (Nat.div_lt_self oM oM);unfold NO at h1⊢;rw[List.foldl_append,h1];show n/b*b+n%b=n;exact Nat.div_add_mod' n b
theorem Hl {b n m:Nat} (h:ft b n=ft b m):n=m:=by rw[<-v8 (b:=b) n,h,v8]
theorem Ja {b:Nat} (hb:2<=b):∀(n:Nat),∀d∈ft b n,d<b:=by
 intro n;induction n using Nat.strongRecOn with
 | _ n ih=>
  intro d hd;unfold ft at hd;split at hd
  ·rename_i h;have:=List.mem_singleton.1 hd;omega
  rename_i h;rcases List.mem_append.1 hd with hd | hd
  ·exact ih (n/b) (Nat.div_lt_self oM oM) d hd
  have:=List.mem_singleton.1 hd;rw[this];exact Nat.mod_lt _ oM
theorem Ei {b n:Nat}:ft b n≠[]:=by
 unfold ft;split
 ·exact List.cons_ne_nil _ _
 exact List.append_ne_nil_of_right_ne_nil _<|List.cons_ne_nil _ _
def n9 (d:Nat):UInt8:=UInt8.ofNat (if d<10 then 48+d else 87+d)
theorem iA {d:Nat} (h:d<36):(n9 d).toNat=if d<10 then 48+d else 87+d:=by
 unfold n9;rw[UInt8.toNat_ofNat'];split<;>omega
theorem IW {d e:Nat} (hd:d<36) (he:e<36) (h:n9 d=n9 e):d=e:=by
 have:=congrArg UInt8.toNat h;rw[iA hd,iA he] at this;split at this<;>split at this<;>omega
theorem FH {d:Nat} (h:d<36):n9 d≠44/\n9 d≠45/\n9 d≠47:=by
 refine⟨fun e=>?_,fun e=>?_,fun e=>?_⟩<;>
 ·have:=congrArg UInt8.toNat e;rw[iA h] at this;split at this<;>simp at this<;>omega
theorem wK:∀{l m:List Nat},(∀d∈l,d<36)->(∀d∈m,d<36)->l.map n9=m.map n9->l=m
 | [],[],_,_,_=>rfl
 | [],_::_,_,_,h=>by cases h
 | _::_,[],_,_,h=>by cases h
 | x::l,y::m,hl,hm,h=>by
  rw[List.map_cons,List.map_cons] at h;obtain⟨h1,u⟩:=List.cons.inj h;rw[IW (hl x<|mS_ ..) (hm y<|mS_ ..) h1,wK (fun d hd=>hl d (mC_ _ hd)) (fun d hd=>hm d (mC_ _ hd)) u]
def uR (b:Nat) (z:Int):List UInt8:=if z<0 then 45::(ft b (-z).toNat).map n9 else(ft b z.toNat).map n9
section
variable {b:Nat}
theorem z7 (u:2<=b) (m:b<=36) (n:Nat):∀d∈ft b n,d<36:=fun d hd=>Nat.lt_of_lt_of_le (Ja u n d hd) m
theorem BV (A:2<=b) (u:b<=36) (x y:Int) (h:uR b x=uR b y):x=y:=by
 have C:∀(n m:Nat),(ft b n).map n9≠45::(ft b m).map n9:=fun n m e=>by
  cases hd:ft b n with
  | nil=>exact Ei hd
  | cons d l=>
   rw[hd,List.map_cons] at e;exact(FH<|z7 A u n d (by rw[hd];exact mS_ ..)).2.1 (List.cons.inj e).1
 have hi:∀(n m:Nat),(ft b n).map n9=(ft b m).map n9->n=m:=fun n m e=>Hl (wK (z7 A u n) (z7 A u m) e)
 unfold uR at h;split at h<;>split at h
 ·have:=hi _ _ (List.cons.inj h).2;omega
 ·exact absurd h.symm<|C _ _
 ·exact absurd h<|C _ _
 have:=hi _ _ h;omega
theorem FZ (A:2<=b) (u:b<=36) (x:Int):44∉uR b x/\47∉uR b x:=by
 have m:∀(n:Nat) (c:UInt8),c∈(ft b n).map n9->c≠44/\c≠47:=fun n c hc=>by
  obtain⟨d,hd,rfl⟩:=List.mem_map.1 hc;have:=FH (z7 A u n d hd);exact⟨this.1,this.2.2⟩
 unfold uR;split
 ·refine⟨fun h=>?_,fun h=>?_⟩<;>rcases mQ_.1 h with h | h
  ·exact absurd h (by decide)
  ·exact(m _ _ h).1 Z
  ·exact absurd h (by decide)
  exact(m _ _ h).2 Z
 exact⟨fun h=>(m _ _ h).1 Z,fun h=>(m _ _ h).2 Z⟩
end
end Go.Ev
namespace Go.Ev
variable [Env]
def P5:List Nat->Nat->Option Nat
 | [],n=>some n
 | c::r,n=>if 48<=c/\c<=57 then P5 r (10*n+(c-48)) else none
def QB (s:List Nat):Option Nat:=if s.length=0∨4<s.length∨(1<s.length/\s[0]? =some 48) then none else P5 s 0
def rN (b:Bool):Int:=bif b then 1 else 0
def Ot (f:BitVec 64->BitVec 64->BitVec 64) (a b:Int):Int:=wr .i64 (IntKind.u64.wrap (f (BitVec.ofInt 64<|wr .u64 a)<|BitVec.ofInt 64<|wr .u64 b).toNat)
def R1 (op a:Int):Int:=bif bM op 3 then wr .i64 (wr .u64<|Int.sub 0<|wr .u64 a) else rN (bM a 0)
def Sk (op a b:Int):Int:=
 bif bM op 5 then rN (bif cC (bM a 0) then true else cC (bM b 0)) else
 bif bM op 6 then rN (bif cC (bM a 0) then cC (bM b 0) else false) else
 bif bM op 7 then rN (bM a b) else
 bif bM op 8 then rN (cC<|bM a b) else
 bif bM op 9 then rN (dy a b) else
 bif bM op 10 then rN (cC<|dy b a) else
 bif bM op 11 then Ot (· ||| ·) a b else
 bif bM op 12 then Ot (· ^^^ ·) a b else
 bif bM op 13 then Ot (· &&& ·) a b else
 bif bM op 14 then wr .i64 (wr .u64<|Int.add (wr .u64 a)<|wr .u64 b) else
 bif bM op 15 then wr .i64 (wr .u64<|Int.sub (wr .u64 a)<|wr .u64 b) else
 wr .i64 (wr .u64<|Int.mul (wr .u64 a)<|wr .u64 b)
def S3 (op:Int) (l:List Int):Int×Int:=
 bif (bif (bif bM op 3 then true else bM op 4) then bM (.ofNat l.length) 1 else false) then(R1 op ((l[0]?).getD 0),0) else
 bif (bif (bif cC (dy op 5) then cC (dy 16 op) else false) then bM (.ofNat l.length) 2 else false) then(Sk op ((l[0]?).getD 0) ((l[1]?).getD 0),0) else(0,2)
def S4 (op:Int) (l:List Int):Int:=(S3 op l).1
def NP (dT:List Int):Nat->XE->Int
 | 0,_=>0
 | k+1,.mk op num name kids=>bif bM op 1 then num else bif bM op 2 then(dT[(QB name).getD 0]?).getD 0 else S4 op (kids.map<|NP dT k)
def Qk (op:Int):Int:=bif (bif bM op 3 then true else bM op 4) then 1 else 2
def xn (dT:Int):Nat->XE->Bool
 | 0,_=>false
 | k+1,.mk op num name kids=>
  bif bM op 1 then(bif cC (dy num 0) then(bif xY name [] then bM (.ofNat kids.length) 0 else false) else false) else
  bif bM op 2 then(match QB name with | some n=>(bif dy (.ofNat n) dT then(bif bM num 0 then bM (.ofNat kids.length) 0 else false) else false) | none=>false) else
  bif (bif (bif bM op 3 then true else bM op 4) then false else(bif dy op 5 then true else dy 16 op)) then false else
  bif (bif cC (bM num 0) then true else bif cC (xY name []) then true else cC (bM (.ofNat kids.length)<|Qk op)) then false else
  kids.all (xn dT k)
def KT (f:XE->Int->Option Int):List XE->Int->Option Int
 | [],m=>some m
 | x::r,m=>(f x m).bind (KT f r)
def KS:Nat->XE->Int->Int->Option Int
 | 0,_,_,_=>none
 | k+1,.mk _ _ _ kids,deep,size=>bif (bif dy 2000 (wr .i64<|Int.add size 1) then true else dy 32 deep) then none else KT (fun x m=>KS k x (wr .i64<|Int.add deep 1) m) kids (wr .i64<|Int.add size 1)
structure pH where
 Gx:Bool
 loc:Bool
 order:Bool
 to:Bool
 exprs:Nat
def AQ:List pH:=[⟨false,false,false,false,0⟩,⟨true,false,false,false,1⟩,⟨true,true,true,false,0⟩,⟨false,true,true,false,1⟩,⟨true,true,true,false,2⟩,⟨true,true,true,false,1⟩,⟨true,true,true,false,1⟩,⟨false,false,true,false,0⟩,⟨false,false,false,false,1⟩,⟨false,false,false,false,1⟩,⟨false,false,false,true,0⟩,⟨false,false,false,true,1⟩,⟨false,false,false,false,0⟩,⟨false,false,false,false,0⟩]
def gq (n least most:Int) (must:Bool):Bool:=bif must then(bif cC (dy n least) then dy n most else false) else bM n 0
def vp (dT nins:Int) (k:Nat) (x:XI) (h:pH):Bool:=
 bif cC (gq x.Gx 0 dT h.Gx) then false else bif cC (gq x.loc 0 6 h.loc) then false else bif cC (gq x.order 1 7 h.order) then false else bif cC (gq x.to 0 nins h.to) then false else
 bif cC (bM (.ofNat x.exprs.length) (.ofNat h.exprs)) then false else x.exprs.all (xn dT k)
def tM (dT nins:Int) (k:Nat) (x:XI):Bool:=
 bif dy x.kind 1 then false else bif dy 13 x.kind then false else
 match AQ[x.kind.toNat]? with
 | some h=>vp dT nins k x h
 | none=>false
def KU (k:Nat) (x:XI):Bool:=x.exprs.all fun e=>(KS k e 1 0).isSome
def Am (x:XI):Bool:=bif bM x.kind 10 then true else bif bM x.kind 12 then true else bM x.kind 13
def nu (k:Nat) (c:XC):Int:=
 bif dy 16 c.dT then 3 else bif dy 4000 (.ofNat c.ins.length) then 3 else
 bif cC (c.ins.all<|KU k) then 3 else
 bif dy c.dT 0 then 2 else bif bM (.ofNat c.ins.length) 0 then 2 else
 bif cC (c.ins.all<|tM c.dT (.ofNat c.ins.length) k) then 2 else
 match c.ins[c.ins.length-1]? with
 | some x=>bif Am x then 0 else 2
 | none=>2
def yX (x:XI) (at_:Nat):List Int:=
 bif bM x.kind 10 then [x.to] else bif bM x.kind 11 then [.ofNat (at_+1),x.to] else bif bM x.kind 12 then [] else bif bM x.kind 13 then [] else [.ofNat (at_+1)]
def oT (c:XC) (i:Nat):List Nat:=match c.ins[i]? with | some x=>(yX x i).map Int.toNat | none=>[]
structure DS where
 st:List Nat
 gone:List Nat
 out:List Nat
 path:List Nat
def FM (nx:Nat->List Nat) (s:DS) (at_:Nat):Option DS:=
 let g:=(s.gone[at_]?).getD 0
 match(nx at_)[g]? with
 | none=>some {s with st:=s.st.set at_ 2,out:=s.out++[at_],path:=s.path.dropLast}
 | some to=>
  let s':={s with gone:=s.gone.set at_ (g+1)}
  if(s.st[to]?).getD 0=2 then some s' else if(s.st[to]?).getD 0=1 then none else some {s' with st:=s.st.set to 1,path:=s.path++[to]}
def Q6 (nx:Nat->List Nat):Nat->DS->Option (List Nat)
 | 0,_=>none
 | f+1,s=>match s.path.getLast? with
  | none=>some s.out
  | some at_=>(FM nx s at_).bind (Q6 nx f)
def LI (n:Nat):DS:=⟨(List.replicate n 0).set 0 1,List.replicate n 0,[],[0]⟩
def total (nx:Nat->List Nat) (n:Nat):Nat:=((List.range n).map fun i=>(nx i).length).sum
def Aw (c:XC):Option (List Nat):=Q6 (oT c) (2*total (oT c) c.ins.length+2) (LI c.ins.length)
def qK (k:Nat) (c:XC):Bool:=bif cC (bM (nu k c) 0) then false else(Aw c).isSome
structure Q0 (nx:Nat->List Nat) (n:Nat) (s:DS):Prop where
 QT:s.st.length=n
 yM:s.gone.length=n
 gone:∀(i g:Nat),s.gone[i]? =some g->g<=(nx i).length
 path:∀i∈s.path,i<n/\s.st[i]? =some 1
 out:∀i∈s.out,i<n
 nodup:s.path.Nodup
 fresh:∀(i g:Nat),s.st[i]? =some 0->s.gone[i]? =some g->g=0
 done:∀(i:Nat),s.st[i]? =some 2->i∈s.out
 tL:∀(k i:Nat),s.out[k]? =some i->∀to∈nx i,∃k',k'<k/\s.out[k']? =some to
 ways:∀(j p g:Nat),s.path[j]? =some p->s.gone[p]? =some g->∀(m to:Nat),m<g->(nx p)[m]? =some to->to∈s.out∨s.path[j+1]? =some to
 zero:0∈s.out∨0∈s.path
 size:∀(i g:Nat),s.st[i]? =some g->g<=2
def qL (nx:Nat->List Nat) (n:Nat) (s:DS):Nat:=2*(total nx n-s.gone.sum)+s.path.length
section
variable {nx:Nat->List Nat} {n:Nat} {s s':DS}
theorem GN:∀{l:List Nat} {i g g':Nat},l[i]? =some g->(l.set i g').sum+g=l.sum+g'
 | [],_,_,_,h=>by simp at h
 | x::l,0,g,g',h=>by
  simp only[List.getElem?_cons_zero,oJ_] at h;subst h;simp only[List.set_cons_zero,List.sum_cons];omega
 | x::l,i+1,g,g',h=>by
  have:=GN (l:=l) (i:=i) (g:=g) (g':=g') (by simpa using h);simp only[List.set_cons_succ,List.sum_cons];omega
theorem GM {f:Nat->Nat}:∀(l:List Nat) (k:Nat),(∀i g,l[i]? =some g->g<=f (k+i))->l.sum<=((List.range' k l.length).map f).sum
 | [],_,_=>by simp
 | x::l,k,h=>by
  have h0:=h 0 x Z;have:=GM l (k+1) (fun i g b=>by have:=h (i+1) g (by simpa using b);rwa[show k+1+i=k+(i+1) by omega]);simp only[List.length_cons,List.range'_succ,List.map_cons,List.sum_cons]
  grind
theorem Oz (b:0<n):Q0 nx n (LI n) where
 QT:=by simp[LI]
 yM:=by simp[LI]
 gone i g hg:=by
  have:g=0:=by
   have:=gB_ hg;exact eR_ this
  omega
 path i hi:=by
  obtain rfl:i=0:=by simpa [LI] using hi
  exact⟨b,by simp[LI,b]⟩
 out i hi:=by simp[LI] at hi
 nodup:=by simp[LI]
 fresh i g _ hg:=eR_ (gB_ hg)
 done i hi:=by
  exfalso;have hi:((List.replicate n 0).set 0 1)[i]? =some 2:=hi
  grind
 tL k i hk:=by simp[LI] at hk
 ways j p g hj hg m to hm:=by
  have:g=0:=eR_ (gB_ hg);omega
 zero:=.inr (by simp[LI])
 size i g hg:=by
  have hi:((List.replicate n 0).set 0 1)[i]? =some g:=hg
  grind
theorem J1 {l:List Nat} {a:Nat} {P:List Nat} (h:l.Nodup) (hl:l=P++[a]) {j:Nat} (hj:l[j]? =some a):j=P.length:=by
 grind
theorem Jd (h:Q0 nx n s) (ad:∀i,i<n->∀to∈nx i,to<n) {a:Nat} (ha:s.path.getLast? =some a) (A:FM nx s a=some s'):Q0 nx n s'/\qL nx n s'+1<=qL nx n s/\s'.out.length+qL nx n s'<=s.out.length+qL nx n s:=by
 obtain⟨P,Q⟩:=List.getLast?_eq_some_iff.1 ha;have R:a∈s.path:=by rw[Q];simp
 obtain⟨T,aq⟩:=h.path a R;obtain⟨g,U⟩:∃g,s.gone[a]? =some g:=⟨_,gC (by rw[h.yM];exact T)⟩
 have ap:∀i∈P,i≠a:=fun i hi hh=>by
  have:=h.nodup;grind
 have ai:s.path[P.length]? =some a:=by rw[Q];simp
 have av:s.path[P.length+1]? =none:=by rw[Q];simp
 unfold FM at A;rw[U] at A;simp only[Option.getD_some] at A;cases C:(nx a)[g]? with
 | none=>
  rw[C] at A;simp only[oJ_] at A;subst A;have hle:(nx a).length<=g:=List.getElem?_eq_none_iff.1 C;have K:s.path.dropLast=P:=by rw[Q];simp
  refine⟨⟨by simp[h.QT],h.yM,h.gone,?_,?_,?_,?_,?_,?_,?_,?_,?_⟩,?_,?_⟩
  ·intro i hi;have hi:i∈P:=by simp_all
   have:=h.path i (by rw[Q];simp[hi])
   grind
  ·intro i hi;rcases List.mem_append.1 hi with hi | hi
   ·exact h.out i hi
   simp_all
  ·show s.path.dropLast.Nodup;rw[K];have:=h.nodup;grind
  ·intro i g' h1 L
   by_cases e:i=a
   ·grind
   have h1:(s.st.set a 2)[i]? =some 0:=h1;rw[List.getElem?_set_ne (fun x=>e x.symm)] at h1;exact h.fresh i g' h1 L
  ·intro i hi;show i∈s.out++[a]
   by_cases e:i=a
   ·subst e;simp
   have hi:(s.st.set a 2)[i]? =some 2:=hi;rw[List.getElem?_set_ne (fun x=>e x.symm)] at hi;exact List.mem_append_left _<|h.done i hi
  ·intro k i hk to G;have hk:(s.out++[a])[k]? =some i:=hk;show∃k',k'<k/\(s.out++[a])[k']? =some to
   by_cases W:k<s.out.length
   ·rw[gL_ W] at hk;obtain⟨k',h1,L⟩:=h.tL k i hk to G;exact⟨k',h1,by grind⟩
   have hlt':=(gA.1 hk).1;simp only[lA_,List.length_singleton] at hlt';obtain rfl:k=s.out.length:=by omega
   have al:i=a:=by simpa using hk.symm
   subst al;obtain⟨m,hm⟩:=gO_ G;have hm':=(gA.1 hm).1;rcases h.ways _ _ _ ai U m to oM hm with h1 | h1
   ·grind [gO_]
   simp_all
  ·intro j p g' hj d m to hm u;have hj:s.path.dropLast[j]? =some p:=hj;rw[K] at hj;have hjl:=(gA.1 hj).1;show to∈s.out++[a]∨s.path.dropLast[j+1]? =some to;rcases h.ways j p g' (by grind) d m to hm u with h1 | h1
   ·simp_all
   grind
  ·show 0∈s.out++[a]∨0∈s.path.dropLast;rw[K];rcases h.zero with h1 | h1
   ·simp_all
   grind
  ·intro i g' hi;have hi:(s.st.set a 2)[i]? =some g':=hi;rw[List.getElem?_set] at hi;split at hi
   ·simp_all
   exact h.size i g' hi
  ·grind [qL]
  grind [qL]
 | some to=>
  rw[C] at A;dsimp only at A;have ax:g<(nx a).length:=(gA.1 C).1;have X:to<n:=ad a T to (gB_ C);obtain⟨v,hv⟩:∃v,s.st[to]? =some v:=⟨_,gC (by rw[h.QT];exact X)⟩;rw[hv] at A;simp only[Option.getD_some] at A
  have E:∀(i g':Nat),(s.gone.set a (g+1))[i]? =some g'->g'<=(nx i).length:=fun i g' hi=>by
   rw[List.getElem?_set] at hi;split at hi
   ·grind
   exact h.gone i g' hi
  have hsum:=GN (l:=s.gone) (i:=a) (g:=g) (g':=g+1) U
  have W:(s.gone.set a (g+1)).sum<=total nx n:=by
   have:=GM (f:=fun i=>(nx i).length) (s.gone.set a (g+1)) 0 (fun i g' d=>by simp_all);rw[List.length_set,h.yM] at this;unfold total;rwa[List.range_eq_range']
  have b:∀(p g':Nat),p≠a->(s.gone.set a (g+1))[p]? =some g'->s.gone[p]? =some g':=fun p g' hp d=>by
   grind
  have F:∀(g':Nat),(s.gone.set a (g+1))[a]? =some g'->g'=g+1:=fun g' d=>by
   grind
  split at A
  ·rename_i aa;subst aa;simp only[oJ_] at A;subst A;refine⟨⟨h.QT,by simp[h.yM],E,h.path,h.out,h.nodup,?_,h.done,h.tL,?_,h.zero,h.size⟩,?_,?_⟩
   ·intro i g' h1 L;refine h.fresh i g' h1<|b i g' (fun e=>?_) L
    simp_all
   ·intro j p g' hj d m to' hm u
    by_cases hp:p=a
    ·subst hp;obtain rfl:=F g' d
     by_cases M:m<g
     ·exact h.ways j p g hj U m to' M u
     obtain rfl:m=g:=by omega
     rw[C] at u;cases u;exact .inl<|h.done _ hv
    exact h.ways j p g' hj (b p g' hp d) m to' hm u
   ·unfold qL;dsimp only;omega
   unfold qL;dsimp only;omega
  split at A
  ·cases A
  rename_i aa aE;simp only[oJ_] at A;subst A;have am:v=0:=by have:=h.size to v hv;omega
  subst am;have ab:to∉s.path:=fun hh=>by have:=(h.path to hh).2;simp_all
  have an:to≠a:=fun e=>ab (by rw[e];exact R)
  have I:∀i,i≠to->(s.st.set to 1)[i]? =s.st[i]?:=fun i hi=>List.getElem?_set_ne (fun e=>hi e.symm)
  refine⟨⟨by simp[h.QT],by simp[h.yM],E,?_,h.out,?_,?_,?_,h.tL,?_,?_,?_⟩,?_,?_⟩
  ·intro i hi;rcases List.mem_append.1 hi with hi | hi
   ·obtain⟨h1,L⟩:=h.path i hi
    grind
   grind
  ·show(s.path++[to]).Nodup;refine List.nodup_append.2 ⟨h.nodup,by simp,fun x hx y hy=>?_⟩
   grind
  ·intro i g' h1 L
   by_cases e:i=to
   ·grind
   have h1b:(s.st.set to 1)[i]? =some 0:=h1;rw[I i e] at h1b;refine h.fresh i g' h1b<|b i g' (fun e=>?_) L
   simp_all
  ·intro i hi
   by_cases e:i=to
   ·grind
   have hi:(s.st.set to 1)[i]? =some 2:=hi;rw[I i e] at hi;exact h.done i hi
  ·intro j p g' hj d m to' hm u;have ac:(s.path++[to])[j]? =some p:=hj;clear hj;have hj:=ac;clear ac;show to'∈s.out∨(s.path++[to])[j+1]? =some to'
   by_cases hjl:j<s.path.length
   ·rw[gL_ hjl] at hj
    by_cases hp:p=a
    ·subst hp;obtain rfl:=F g' d;have hjP:=J1 h.nodup Q hj
     by_cases M:m<g
     ·rcases h.ways j p g hj U m to' M u with h1 | h1
      ·exact .inl h1
      simp_all
     grind
    rcases h.ways j p g' hj (b p g' hp d) m to' hm u with h1 | h1
    ·exact .inl h1
    grind
   have hlt':=(gA.1 hj).1;simp only[lA_,List.length_singleton] at hlt';obtain rfl:j=s.path.length:=by omega
   have ao:to=p:=by simpa using hj
   subst ao;have:=h.fresh to g' hv (b to g' an d);omega
  ·rcases h.zero with h1 | h1
   ·exact .inl h1
   grind
  ·intro i g' hi;have hi:(s.st.set to 1)[i]? =some g':=hi;rw[List.getElem?_set] at hi;split at hi
   ·grind
   exact h.size i g' hi
  ·grind [qL]
  grind [qL]
structure vB (nx:Nat->List Nat) (n:Nat) (out:List Nat):Prop where
 Pb:∀(k i:Nat),out[k]? =some i->∀to∈nx i,∃k',k'<k/\out[k']? =some to
 zero:0∈out
 lt:∀i∈out,i<n
theorem vS (b:∀i,i<n->∀to∈nx i,to<n):∀{f:Nat} {s:DS} {out:List Nat},Q0 nx n s->Q6 nx f s=some out->vB nx n out
 | 0,_,_,_,h=>by cases h
 | f+1,s,out,hw,h=>by
  unfold Q6 at h;cases hl:s.path.getLast? with
  | none=>
   rw[hl] at h;simp only[oJ_] at h;subst h;have:s.path= []:=List.getLast?_eq_none_iff.1 hl;exact⟨hw.tL,by rcases hw.zero with h1 | h1;exact h1;rw[this] at h1;simp at h1,hw.out⟩
  | some a=>
   rw[hl] at h;dsimp only at h;cases hd:FM nx s a with
   | none=>rw[hd] at h;cases h
   | some s'=>rw[hd] at h;exact vS b (Jd hw b hl hd).1 h
end
structure TS where
 at_:Nat
 dT:List Int
 events:List cU
 asked:Nat
 fin:Int
 asks:Bool
def wa (k:Nat) (dT:List Int) (x:XI) (i:Nat):Int:=((x.exprs[i]?).map<|NP dT k).getD 0
def nU (k:Nat) (x:XI) (s:TS):TS×Bool:=
 bif bM x.kind 1 then({s with dT:=s.dT.set x.Gx.toNat (wa k s.dT x 0),at_:=s.at_+1},true) else
 bif bM x.kind 3 then({s with events:=s.events++[⟨2,x.loc,x.order,0,wa k s.dT x 0⟩],at_:=s.at_+1},true) else
 bif bM x.kind 7 then({s with events:=s.events++[⟨4,0,x.order,0,0⟩],at_:=s.at_+1},true) else
 bif bM x.kind 8 then(bif bM (wa k s.dT x 0) 0 then({s with fin:=2},false) else({s with at_:=s.at_+1},true)) else
 bif bM x.kind 9 then(bif bM (wa k s.dT x 0) 0 then({s with fin:=3},false) else({s with at_:=s.at_+1},true)) else
 bif bM x.kind 10 then({s with at_:=x.to.toNat},true) else
 bif bM x.kind 11 then(bif bM (wa k s.dT x 0) 0 then({s with at_:=x.to.toNat},true) else({s with at_:=s.at_+1},true)) else
 bif bM x.kind 12 then({s with fin:=4},false) else
 bif bM x.kind 13 then({s with fin:=1},false) else
 ({s with asks:=true},false)
def fC (k:Nat) (c:XC) (s:TS):TS×Bool:=match c.ins[s.at_]? with | some x=>nU k x s | none=>(s,false)
def OD (k:Nat) (c:XC):Nat->TS->TS
 | 0,s=>s
 | f+1,s=>bif (fC k c s).2 then OD k c f (fC k c s).1 else(fC k c s).1
def F0 (c:XC):Nat:=((Aw c).getD []).length
def zP (k:Nat) (c:XC):TS:=OD k c (F0 c) ⟨0,List.replicate c.dT.toNat 0,[],0,0,false⟩
structure xR where
 kind:Int
 loc:Int
 order:Int
 a:Int
 b:Int
def xR.ints (x:xR):List Int:=[x.kind,x.loc,x.order,x.a,x.b]
def Rz (k:Nat) (x:XI) (dT:List Int):xR:=⟨x.kind,x.loc,x.order,wa k dT x 0,wa k dT x 1⟩
def rS (k:Nat) (c:XC) (s:TS):xR:=match c.ins[s.at_]? with | some x=>Rz k x s.dT | none=>⟨0,0,0,0,0⟩
def fA (a:xR) (v:Int):cU:=
 bif bM a.kind 2 then⟨1,a.loc,a.order,v,0⟩ else
 bif bM a.kind 4 then(bif bM v a.a then⟨3,a.loc,a.order,v,a.b⟩ else⟨1,a.loc,a.order,v,0⟩) else
 bif bM a.kind 5 then⟨3,a.loc,a.order,v,wr .i64<|wr .u64<|Int.add (wr .u64 v)<|wr .u64 a.a⟩ else
 bif bM a.kind 6 then⟨3,a.loc,a.order,v,a.a⟩ else⟨0,0,0,0,0⟩
def QA (c:XC) (s:TS):Nat:=match c.ins[s.at_]? with | some x=>x.Gx.toNat | none=>0
def Bv (k:Nat) (c:XC) (s:TS) (v:Int):TS:=
 {s with events:=s.events++[fA (rS k c s) v],dT:=s.dT.set (QA c s) v,asked:=s.asked+1,at_:=s.at_+1,asks:=false}
def gm (k:Nat) (c:XC) (s:TS) (v:Int):TS:=OD k c (F0 c) (Bv k c s v)
def qx (k:Nat) (c:XC):List Int->TS->TS
 | [],s=>s
 | v::r,s=>bif s.asks then qx k c r (gm k c s v) else s
def ek (l:List cU):List Int:=(l.filter dR).map cU.read
def nG (k:Nat) (c:XC) (a:List Int):TS:=qx k c a (zP k c)
def BS (s:TS) (l:List cU):Bool:=bif dy (.ofNat s.events.length) (.ofNat l.length) then false else bW (s.events.take l.length) l
def vL (k:Nat) (c:XC):Int:=bif qK k c then 0 else bif cC (bM (nu k c) 0) then nu k c else 2
structure tV where
 event:cU
 ask:xR
 fin:Int
def CB:cU:=⟨0,0,0,0,0⟩
def uz:xR:=⟨0,0,0,0,0⟩
def JZ:tV:=⟨CB,uz,0⟩
def CA (k:Nat) (c:XC) (s:TS) (l:List cU):tV×Int:=
 bif cC (BS s l) then(JZ,2) else
 match s.events[l.length]? with
 | some e=>(⟨e,uz,0⟩,0)
 | none=>bif s.asks then(⟨CB,rS k c s,0⟩,0) else(⟨CB,uz,s.fin⟩,0)
def eP (k:Nat) (c:XC) (l:List cU):tV×Int:=
 bif cC (bM (vL k c) 0) then(JZ,vL k c) else CA k c (nG k c<|ek l) l
structure mj (k:Nat) (c:XC):Prop where
 SO:0<=c.dT
 Sb:c.dT<=16
 len:c.ins.length<=4000
 pos:0<c.ins.length
 right:∀x∈c.ins,tM c.dT (.ofNat c.ins.length) k x=true
 last:∀x,c.ins[c.ins.length-1]? =some x->Am x=true
theorem Ox {k:Nat} {c:XC} (h:nu k c=0):mj k c:=by
 unfold nu at h;cases h1:dy 16 c.dT with
 | true=>rw[h1] at h;cases h
 | false=>
 rw[h1] at h;cases b:dy 4000 (.ofNat c.ins.length) with
 | true=>rw[b] at h;cases h
 | false=>
 rw[b] at h;cases d:cC (c.ins.all<|KU k) with
 | true=>rw[d] at h;cases h
 | false=>
 rw[d] at h;cases h4:dy c.dT 0 with
 | true=>rw[h4] at h;cases h
 | false=>
 rw[h4] at h;cases h5:bM (.ofNat c.ins.length) 0 with
 | true=>rw[h5] at h;cases h
 | false=>
 rw[h5] at h;cases h6:cC (c.ins.all<|tM c.dT (.ofNat c.ins.length) k) with
 | true=>rw[h6] at h;cases h
 | false=>
 rw[h6] at h;simp only[cond_false] at h;rw[eM,decide_eq_false_iff_not] at h1 b h4;have b:¬(4000:Int)<(c.ins.length:Int):=b
 have hp:0<c.ins.length:=by
  grind
 refine⟨by omega,by omega,by omega,hp,fun x hx=>?_,fun x hx=>?_⟩
 ·have h6:=a7 h6
  simp_all
 grind
theorem zc {dT nins:Int} {k:Nat} {x:XI} (h:tM dT nins k x=true):∃(n:Nat) (sh:pH),x.kind= .ofNat n/\1<=n/\n<=13/\AQ[n]? =some sh/\vp dT nins k x sh=true:=by
 unfold tM at h;cases h1:dy x.kind 1 with
 | true=>rw[h1] at h;cases h
 | false=>
 rw[h1] at h;cases b:dy 13 x.kind with
 | true=>rw[b] at h;cases h
 | false=>
 rw[b] at h;simp only[cond_false] at h;rw[eM,decide_eq_false_iff_not] at h1 b
 grind
theorem Dn {n least most:Int} (h:gq n least most true=true):least<=n/\n<most:=by
 unfold gq at h;simp only[cond_true] at h;cases h1:dy n least with
 | true=>rw[h1] at h;cases h
 | false=>
 rw[h1] at h;have h:dy n most=true:=h;rw[eM,decide_eq_false_iff_not] at h1;rw[eM,decide_eq_true_iff] at h;omega
structure LQ (dT nins:Int) (k:Nat) (x:XI) (sh:pH):Prop where
 Gx:gq x.Gx 0 dT sh.Gx=true
 loc:gq x.loc 0 6 sh.loc=true
 order:gq x.order 1 7 sh.order=true
 to:gq x.to 0 nins sh.to=true
 exprs:x.exprs.length=sh.exprs
 all:∀e∈x.exprs,xn dT k e=true
theorem E4 {dT nins:Int} {k:Nat} {x:XI} {sh:pH} (h:vp dT nins k x sh=true):LQ dT nins k x sh:=by
 unfold vp at h;cases h1:gq x.Gx 0 dT sh.Gx with
 | false=>rw[h1] at h;cases h
 | true=>
 cases b:gq x.loc 0 6 sh.loc with
 | false=>rw[h1,b] at h;cases h
 | true=>
 cases d:gq x.order 1 7 sh.order with
 | false=>rw[h1,b,d] at h;cases h
 | true=>
 cases h4:gq x.to 0 nins sh.to with
 | false=>rw[h1,b,d,h4] at h;cases h
 | true=>
 rw[h1,b,d,h4] at h;have h:(bif cC (bM (.ofNat x.exprs.length) (.ofNat sh.exprs)) then false else x.exprs.all (xn dT k))=true:=h;cases h5:bM (.ofNat x.exprs.length) (.ofNat sh.exprs) with
 | false=>rw[h5] at h;cases h
 | true=>
 rw[h5] at h;have h:x.exprs.all (xn dT k)=true:=h;rw[fN,decide_eq_true_iff] at h5;exact⟨h1,b,d,h4,h5,aE_.1 h⟩
theorem My {k:Nat} {c:XC} (h:mj k c):∀i,i<c.ins.length->∀to∈oT c i,to<c.ins.length:=by
 intro i hi to b;unfold oT at b;rw[gC hi] at b;dsimp only at b;have hx:=h.right c.ins[i] (List.getElem_mem hi);have hl:=h.last;generalize aa:c.ins[i]=x at b hx;obtain⟨n,sh,C,E,A,u,hr⟩:=zc hx;have hr:=E4 hr;have hto':=hr.to
 have d:i+1<c.ins.length∨Am x=true:=by
  grind
 unfold yX at b;unfold Am at d;rw[C] at b d;have key:∀m:Nat,m=n->(∀y,(sh.to=true->0<=y/\y<(c.ins.length:Int))->y=x.to->True):=fun _ _ _ _ _=>trivial
 have tole:sh.to=true->0<=x.to/\x.to<(c.ins.length:Int):=fun e=>by rw[e] at hto';exact Dn hto'
 match n,E,A with
 | 1,_,_ | 2,_,_ | 3,_,_ | 4,_,_ | 5,_,_ | 6,_,_ | 7,_,_ | 8,_,_ | 9,_,_=>
  have e:to=i+1:=List.mem_singleton.1 (show to∈[i+1] from b);rcases d with e1 | e1
  ·omega
  cases e1
 | 10,_,_=>
  have e:to=x.to.toNat:=List.mem_singleton.1 (show to∈[x.to.toNat] from b);have:=tole (by cases u;rfl);omega
 | 11,_,_=>
  have e:to=i+1∨to=x.to.toNat:=by grind
  have:=tole (by cases u;rfl);rcases e with e | e
  ·rcases d with e1 | e1
   ·omega
   cases e1
  omega
 | 12,_,_ | 13,_,_=>exact absurd (show to∈([]:List Nat) from b) (by simp)
theorem Ah {k:Nat} {c:XC} (h:qK k c=true):mj k c/\∃out,Aw c=some out/\vB (oT c) c.ins.length out:=by
 unfold qK at h;cases h1:bM (nu k c) 0 with
 | false=>rw[h1] at h;cases h
 | true=>
  rw[h1] at h;have h:(Aw c).isSome=true:=h;have hc:=Ox (NN h1);obtain⟨out,b⟩:=Option.isSome_iff_exists.1 h;exact⟨hc,out,b,vS (My hc) (Oz hc.pos) b⟩
theorem Fx {n:Nat} (h:n<=9223372036854775807):wr .i64 (Int.ofNat n)= .ofNat n:=by
 show(bif Nat.ble n 9223372036854775807 then _ else _)=_
 grind [nE_]
def Bn:Nat->XE->Prop
 | 0,_=>False
 | k+1,.mk _ _ name kids=>name.length<=9223372036854775807/\∀y∈kids,Bn k y
def PX (s:List Nat) (vs:List J):Prop:=vs= [.str s]
end Go.Ev
namespace Go.Ev
section
variable [Env] {H_:Type}
def Fit (P:Program):Nat->TypeId->DataW H_->Prop
  | 0,_,_=>False
  | fuel+1,t,d=>
    match P.underlying t with
    | some .bool=>∃b,d= .lit (.bool b)
    | some (.int k)=>∃n,d= .lit (.int k n)
    | some .string=>∃s,d= .lit (.string s)/\s.length<=maxLen
    | some (.slice e)=>d= .nil∨∃elems spare,d= .slice elems spare/\∀x∈elems,Fit P fuel e x
    | some (.struct fs)=>∃parts,d= .agg parts/\parts.length=fs.size/\∀(i:Nat) (f:Field) (x:DataW H_),fs[i]? =some f->parts[i]? =some x->Fit P fuel f.type x
    | _=>True
theorem Cn {α β:Type} {f:α->Option β}:∀{l:List α} {ys:List β},l.mapM f=some ys->ys.length=l.length/\∀(i:Nat) (x:α),l[i]? =some x->∃y,ys[i]? =some y/\f x=some y
  | [],ys,h=>by simp_all
  | a::l,ys,h=>by
    simp only[List.mapM_cons,Option.bind_eq_bind,Option.bind_eq_some_iff,Option.pure_def,oJ_] at h;obtain⟨y,h1,r,b,rfl⟩:=h;obtain⟨k1,k2⟩:=Cn b
    grind
variable {enc:TypeId×Value->H_} {P:Program} {w:World}
theorem iO:∀(fuel:Nat) (t:TypeId) (cs:List Value) (d:DataW H_) (p:List MemPlace),DataW.trod enc P w 0 (fun _=>true) true fuel t cs=some (d,p)->Fit P fuel t d
  | 0,_,_,_,_,h=>by simp[DataW.trod] at h
  | fuel+1,t,cs,d,p,h=>by
    have ih:=iO fuel;unfold Fit;cases hu:P.underlying t with
    | none=>trivial
    | some u=>
      unfold DataW.trod at h;rw[hu] at h;cases u with
      | bool=>
        split at h<;>first | (rename_i he;cases he;done) | skip
        all_goals first
          | (cases h;exact⟨_,Z⟩)
          | cases h
      | int k=>
        split at h<;>first | (rename_i he;cases he;done) | skip
        all_goals first
          | (rename_i A m n he
             cases he;split at h
             · cases h;exact⟨_,Z⟩
             · cases h)
          | cases h
      | string=>
        split at h<;>first | (rename_i he;cases he;done) | skip
        all_goals first
          | (split at h
             · rename_i C;cases h;exact⟨_,Z,by rw[Array.length_toList];exact C⟩
             · cases h)
          | cases h
      | struct fs=>
        dsimp only at h⊢;split at h
        · obtain⟨xs,E,hx⟩:=oM_.1 h
          have hd:d= .agg (xs.map (·.1)):=by have:=congrArg Prod.fst hx;simpa using this.symm
          obtain⟨A,m⟩:=Cn E;refine⟨_,hd,by simpa using A,fun i f x hf b=>?_⟩;obtain⟨y,hy,F⟩:=m i f (by rw[aT_];exact hf);rw[gM_,hy] at b;cases b;exact ih _ _ _ y.2 F
        · cases h
      | slice e=>
        split at h<;>first | (rename_i he;cases he;done) | skip
        · cases h;exact .inl Z
        · rename_i e' a len cap he
          cases he;dsimp only at h;rw[if_pos Z] at h;split at h
          · obtain⟨elems,I,K⟩:=Option.bind_eq_some_iff.1 h
            obtain⟨rest,_,hd⟩:=oM_.1 K;have hd:d= .slice (elems.map (·.1)) (rest.map (·.1)):=by have:=congrArg Prod.fst hd;simpa using this.symm
            refine .inr ⟨_,_,hd,fun x hx=>?_⟩;obtain⟨y,hy,rfl⟩:=List.mem_map.1 hx;obtain⟨i,hi⟩:=gO_ hy;obtain⟨A,m⟩:=lG I;obtain⟨j,_,hj⟩:=m i y hi;obtain⟨c,_,hc⟩:=Option.bind_eq_some_iff.1 hj;exact ih _ _ _ y.2 hc
          · cases h
        all_goals cases h
      | _=>trivial
end
section
variable [Env] {P:Program} {G:Cx}
def pI (V:N):KP:=fun b o=>b<V.next/\V.m.get b=some o
theorem St.of (V:N):St V (pI V) []:=⟨fun b o h=>⟨h.1,h.2,fun e he=>by cases he⟩,fun e he=>(by cases he),List.Pairwise.nil⟩
theorem hJ.Qr {w w':World} {O ρ':Ren} {V V':N} (h:eF O V w ρ' V' w') (u:jb V):hJ w w':=
  ⟨h.os,h.out,h.tape,h.size,fun r d=>h.frame r d fun⟨b,o,l,h1,m,_⟩=>by rw[u b o h1] at m;cases m⟩
theorem uc (hm:P.follows .mixedOrders=true) (b:xP P G) {O:Ren} {V:N} {w:World} {f:Nat} {args:List J} {xs:Array Value} {R:J->N->Prop} (hi:Inv O V w) (d:GR O G) (m:jb V) (hx:cT O args xs.toList) (h:aW P G f args V R):
    Calls P f xs w fun e w'=>∃v x V' ρ',e= .returned x/\hJ w w'/\VR ρ' v x/\R v V':=by
  obtain⟨K,v,V',h1,u⟩:=h;exact oE (fuel:=K) hm b (h1 K<|nR_ _) hi d hx fun ρ' w' x _ st hv=>⟨v,x,V',ρ',Z,hJ.Qr st m,hv,u⟩
theorem jb.leaf:jb V0:=fun b o h=>by
  have:(PT.leaf:PT cu).get b=some o:=h;rw[PT.jh] at this;cases this
theorem dq.fresh {O:Ren} {V:N} {w:World} (hi:Inv O V w) {b:Nat} {o:cu} (h:V.m.get b=some o):b<V.next:=by
  rcases Nat.lt_or_ge b V.next with h' | h'
  · exact h'
  · rw[(hi.fresh b h').2] at h;cases h
end
end Go.Ev
namespace Go.Ev
variable [Env]
open Go.Proofs Go.Shelf Go.RowKit Go.Lib Go.Sort
def Nf:cu->Option cu
 | .row c e _=>some (.row c e true)
 | .own c e=>some (.row c e true)
 | _=>none
def KH (V:N) (b:Nat):Nat->PT cu
 | 0=>.leaf
 | n+1=>if n=b then KH V b n else match(V.m.get n).bind Nf with
  | some o=>(KH V b n).put (some o) n
  | none=>KH V b n
def LO (V:N) (b:Nat):N:=⟨V.next,KH V b V.next⟩
theorem AL (V:N) (b:Nat):∀n i:Nat,(KH V b n).get i=if i<n/\i≠b then(V.m.get i).bind Nf else none
 | 0,i=>by
  show(PT.leaf:PT cu).get i=_;rw[PT.jh,if_neg oM]
 | n+1,i=>by
  have ih:=AL V b n i;unfold KH
  by_cases hb:n=b
  ·rw[if_pos hb,ih]
   by_cases h:i<n/\i≠b
   ·rw[if_pos h,if_pos ⟨by omega,h.2⟩]
   rw[if_neg h,if_neg oM]
  rw[if_neg hb]
  by_cases hi:i=n
  ·subst hi;rw[if_pos ⟨by omega,hb⟩];cases hg:(V.m.get i).bind Nf with
   | some o=>dsimp only;exact PT.de _ _ _
   | none=>dsimp only;rw[ih,if_neg oM]
  have key:(match(V.m.get n).bind Nf with | some o=>(KH V b n).put (some o) n | none=>KH V b n).get i=(KH V b n).get i:=by
   cases (V.m.get n).bind Nf with
   | some o=>exact PT.db _ _ _ _ hi
   | none=>rfl
  rw[key,ih]
  by_cases h:i<n/\i≠b
  ·rw[if_pos h,if_pos ⟨by omega,h.2⟩]
  rw[if_neg h,if_neg oM]
theorem AK {V:N} {b i:Nat} {o:cu} (h:(LO V b).m.get i=some o):i≠b/\∃o',V.m.get i=some o'/\Nf o'=some o:=by
 have d:(KH V b V.next).get i=some o:=h;rw[AL] at d;split at d
 ·rename_i hc;obtain⟨o',u,h4⟩:=Option.bind_eq_some_iff.1 d;exact⟨hc.2,o',u,h4⟩
 cases d
theorem Pd {o o':cu} (h:Nf o=some o'):o'.ro=true:=by
 cases o<;>first | (cases h;rfl) | cases h
theorem QJ {O:Ren} {l:Loc} {o o':cu} {x:Obj} (h:Nf o=some o') (hx:fR O l o x):fR O l o' x:=by
 cases o with
 | row c e ro=>
  cases h;obtain⟨c',fr,h1,b,d,h4,_⟩:=hx;exact⟨c',fr,h1,b,d,h4,fun h=>by cases h⟩
 | own c e=>
  cases h;obtain⟨_,c',fr,h1,b,d,h4,_⟩:=hx;exact⟨c',fr,h1,b,d,h4,fun h=>by cases h⟩
 | _=>cases h
theorem vq (V:N) (b:Nat):jb (LO V b):=fun i o h=>by
 obtain⟨_,o',_,d⟩:=AK h;exact Pd d
theorem Inv.LO {O:Ren} {V:N} {w W:World} (hi:Inv O V w) {b:Pos} {l:Loc} {o:cu} (hb:V.m.get b=some o) (A:o.ro=false) (hl:O b=some l)
  (I:w.heap.size<=W.heap.size) (hw:∀r:Nat,r<w.heap.size->r≠l.da->W.heap[r]? =w.heap[r]?):Inv O (LO V b) W:=by
 have E:∀r:Nat,r<Env.n0->r≠l.da:=fun r d e=>hi.nz.no r d ⟨b,o,l,hb,A,hl,e.symm⟩
 refine⟨⟨fun b' F=>?_,fun b' l' h=>Nat.lt_of_lt_of_le (hi.da b' l' h) I,fun b' o' l' h1 u=>?_,fun b' b'' o' o'' l' l'' h1 u _ _ _ _=>⟨vq _ _ _ _ h1,vq _ _ _ _ u⟩⟩,⟨Nat.le_trans hi.nz.size I,fun r d=>?_,fun r d ⟨b',o',l',h1,u,_⟩=>by rw[vq _ _ _ _ h1] at u;cases u⟩⟩
 ·have hf:=hi.fresh b' F;refine⟨hf.1,?_⟩;cases hq:(Go.Ev.LO V b).m.get b' with
  | none=>rfl
  | some q=>
   obtain⟨_,o',C,_⟩:=AK hq;rw[hf.2] at C;cases C
 ·obtain⟨hne,K,C,h4⟩:=AK h1;obtain⟨x,hx,d⟩:=hi.obj b' K l' C u
  have G:l'.da≠l.da:=fun e=>by
   have:=(hi.inj b' b K o l' l C hb u hl e hne).2;rw[A] at this;cases this
  exact⟨x,by rw[hw _ (hi.da b' l' u) G];exact hx,QJ h4 d⟩
 rw[hw r (Nat.lt_of_lt_of_le d hi.nz.size)<|E r d];exact hi.nz.same r d
theorem hJ.grown {W w':World} (h:hJ W w'):∃q os',w'=Go.Sort.grow (W.drewN q) os':=by
 refine⟨w'.drawn-W.drawn,w'.heap.extract W.heap.size w'.heap.size,?_⟩
 have e1:W.heap++w'.heap.extract W.heap.size w'.heap.size=w'.heap:=by
  apply Array.ext_getElem?;intro i
  by_cases hi:i<W.heap.size
  ·rw[Array.getElem?_append_left hi,h.same i hi]
  rw[Array.getElem?_append_right oM,Array.getElem?_extract]
  by_cases h2:i<w'.heap.size
  ·rw[if_pos oM];congr 1;omega
  rw[if_neg oM];simp[h2]
 have hd:=h.out.2;have h1:=h.out.1;have h2:=h.os;have h3:=h.tape;obtain⟨heap,tape,drawn,os,output⟩:=w';dsimp only at h1 h2 h3 hd e1;subst h1 h2 h3;unfold Go.Sort.grow World.drewN;dsimp only;rw[e1,Nat.add_sub_cancel' hd]
def eN (k:Nat) (cells:List J) {n:Nat} (d:Array (Fin (n+1))):List J:=
 (List.range (d.size*k)).map (fun t=>cells.getD ((d[t/k]!).val*k+t%k) .any)++cells.drop (d.size*k)
def FN (k:Nat) (cells:List J) (i:Nat):J:=.agg ((cells.drop (i*k)).take k)
def Bm (P:Program) (G0:Cx) (k g:Nat) (V:N) (b:Nat) (cells:List J) (n:Nat) (cf:Fin (n+1)->Fin (n+1)->Int):Prop:=
 SWO (ltOf cf)/\∀x y:Fin (n+1),aW P G0 g [FN k cells x.val,FN k cells y.val] (LO V b) fun v _=>v= .int .i64 (cf x y)
def js {n:Nat} (cf:Fin (n+1)->Fin (n+1)->Int):Array (Fin (n+1)):=
 pdq (ltOf cf) (Array.ofFn (fun i:Fin (n+1)=>i)) 0 (n+1) (Lib.bitLen (n+1)) true true
def IV (c:nL):Bool:=match c with | .known _=>true | .upto _=>true | .least _ _=>false
open Classical in
def sA (P:Program) (G0:Cx) (F k:Nat) (gs:Nat->Bool) (f:Nat) (args:List J) (V:N):Option (J×N):=
 if f=F then
  match args with
  | [.au,_]=>some (.tuple [],V)
  | [.slice b 0 (n+1) c,.func g [] []]=>
   match V.m.get b with
   | some (.row cells e false)=>
    if h:((n+1)*k<=cells.length/\n+1<4611686018427387904/\gs g=true/\IV c=true/\bO (cells.take ((n+1)*k))=true)/\∃cf,Bm P G0 k g V b cells n cf then
     some (.tuple [],V.setObj b (.row (eN k cells<|js<|Classical.choose h.2) e false))
    else none
   | _=>none
  | _=>none
 else none
section
variable {P:Program} {G0:Cx}
theorem cT.sub {O:Ren} {cells:List J} {ys:List Value} {i k:Nat} (hl:i+k<=cells.length) (hy:ys.length=k) (h:∀j,j<k->∃v y,cells[i+j]? =some v/\ys[j]? =some y/\VR O v y):cT O ((cells.drop i).take k) ys:=by
 refine cT.EM (by simp;omega) fun j v hv=>?_
 rw[List.getElem?_take] at hv;split at hv
 ·rename_i hj;rw[List.getElem?_drop] at hv;obtain⟨v',y,h1,b,d⟩:=h j hj;rw[h1] at hv;cases hv;exact⟨y,b,d⟩
 cases hv
theorem Kl {α:Type} [Inhabited α] (lt:α->α->Bool) (hO:SWO lt) (d:Array α):(pdq lt d 0 d.size (Lib.bitLen d.size) true true).size=d.size:=
 (pdq_sorts lt hO d 0 d.size (Lib.bitLen d.size) true true (Nat.zero_le _) (nR_ _)<|Or.inl Z).1.1
theorem sB {n:Nat} {cf:Fin (n+1)->Fin (n+1)->Int} (hO:SWO (ltOf cf)):(js cf).size=n+1:=by
 have:=Kl (ltOf cf) hO (Array.ofFn (fun i:Fin (n+1)=>i));rw[Array.size_ofFn] at this;exact this
theorem Jz {n:Nat} (x:Fin (n+1)):(Array.ofFn (fun i:Fin (n+1)=>i))[x.val]! =x:=by
 rw[getElem!_pos _ _ (by simp[x.isLt])];simp
theorem xu (hm:P.follows .mixedOrders=true) (hC:xP P G0) {φ:Go.Shelf.Ren} (L:SlLaysF0.n6 P φ) {k:Nat} (hk:0<k) (aE:∀w,(isAgg (φ.t 24)).run P w= .ok true w) (zE:∀w,(Go.sizeOf (φ.t 24)).run P w= .ok k w) {gs:Nat->Bool}
  (eg:∀g,gs g=true->∀args w,(callFunc g args).run P w= .ok (.enter g args) w) {f:Nat} {args:List J} {V V':N} {v:J} (h:sA P G0 (φ.f 6) k gs f args V=some (v,V')) (O:Ren) (w:World) (xs:Array Value) (hi:Inv O V w) (hg:GR O G0) (hx:cT O args xs.toList):
  Calls P f xs w fun e w'=>∃x ρ',e= .returned x/\VR ρ' v x/\Inv ρ' V' w'/\eF O V w ρ' V' w':=by
 unfold sA at h;split at h
 case isFalse=>cases h
 rename_i hf;subst hf;split at h
 ·
  cases h;rename_i u;obtain⟨x1,r1,e1,h1,h2⟩:=hx.cons_inv;obtain⟨x2,r2,e2,h3,h4⟩:=h2.cons_inv;obtain rfl:=h4.dY;subst e2;have R:xs= #[x1,x2]:=by apply Array.toList_inj.1;rw[e1]
  subst R;simp only[VR] at h1;subst h1;refine(AnyF.slices_SortFunc_none L none 0 x2 w).mono fun e w' ⟨he,hw⟩=>?_
  subst hw;exact⟨_,O,he,by simp only[VR];exact⟨#[],Z,cT.nil⟩,hi,eF.refl _ _ _⟩
 ·rename_i b n c g;split at h
  case h_2=>cases h
  rename_i cells e hb;split at h
  case isFalse=>cases h
  rename_i hc;cases h;obtain⟨⟨hlen,hn,av,ad,T⟩,U⟩:=hc;have hch:Bm P G0 k g V b cells n (Classical.choose U):=Classical.choose_spec U;generalize Classical.choose U=cf at hch⊢;obtain⟨hO,ai⟩:=hch;obtain⟨x1,r1,e1,h1,h2⟩:=hx.cons_inv;obtain⟨x2,r2,e2,h3,h4⟩:=h2.cons_inv;obtain rfl:=h4.dY;subst e2;have R:xs= #[x1,x2]:=by apply Array.toList_inj.1;rw[e1]
  subst R
  have ax:x2= .func (.func g) #[] #[]:=by
   simp only[VR] at h3;obtain⟨fi,ca,h5,M,h7⟩:=h3;rw[h5,show fi= #[] from by apply Array.toList_inj.1;rw[M.dY],show ca= #[] from by apply Array.toList_inj.1;rw[h7.dY]]
  subst ax
  have a0:∃l cp,O b=some l/\x1= .slice (some ⟨l.da,l.sh,none⟩) (n+1) cp:=by
   cases c with
   | known c=>simp only[VR] at h1;obtain⟨l,h5,M⟩:=h1;exact⟨l,c,h5,M⟩
   | upto sz=>
    simp only[VR] at h1;obtain⟨l,h5,M⟩:=h1;rcases M with ⟨c,M,_⟩ | ⟨M,_⟩
    ·exact⟨l,c,h5,M⟩
    omega
   | least a sz=>cases ad
  obtain⟨l,cp,hl,rfl⟩:=a0;obtain⟨c,fr,W,a1,a2,al,am⟩:=hi.row hb hl
  have A:∀t,t<(n+1)*k->∃u y,cells[t]? =some u/\c[l.sh+t]? =some y/\VR O u y/\y.oneCell'=true:=fun t C=>by
   have X:t<cells.length:=by omega
   obtain⟨y,a3,an⟩:=al t cells[t] (gC X);refine⟨_,y,gC X,a3,an,kP (k9 T cells[t] ?_) an⟩;have:(cells.take ((n+1)*k))[t]? =some cells[t]:=by rw[List.getElem?_take,if_pos C];exact gC X
   exact gB_ this
  let enc:Fin (n+1)->List Value:=fun x=>(List.range k).map fun j=>c[l.sh+(x.val*k+j)]!
  have E:∀x,(enc x).length=k:=fun x=>by simp[enc]
  have aa:∀(x:Fin (n+1)) j,j<k->x.val*k+j<(n+1)*k:=fun x j hj=>by
   have:(x.val+1)*k<=(n+1)*k:=nM_ _ (by have:=x.isLt;omega);rw[Nat.add_mul,Nat.one_mul] at this;omega
  have F:∀(x:Fin (n+1)) j,j<k->∃u y,cells[x.val*k+j]? =some u/\(enc x)[j]? =some y/\VR O u y/\y.oneCell'=true:=fun x j hj=>by
   obtain⟨u,y,Q,G,k3,k4⟩:=A _ (aa x j hj);refine⟨u,y,Q,?_,k3,k4⟩;simp only[enc,gM_,List.getElem?_range hj,Option.map_some];rw[getElem!_def,G]
  have h1c:∀x,∀v∈enc x,v.oneCell'=true:=fun x v hv=>by
   obtain⟨j,hj,a4⟩:=List.getElem_of_mem hv;rw[E] at hj;obtain⟨u,y,_,G,_,k4⟩:=F x j hj;rw[gC (by rw[E];exact hj),a4] at G;cases G;exact k4
  have I:∀(d:Array (Fin (n+1))) t,t<d.size*k->(flatK enc k d)[t]! =c[l.sh+((d[t/k]!).val*k+t%k)]!:=fun d t C=>by
   rw[get_flatK _ _ _ _ C];have K:t%k<k:=Nat.mod_lt _ hk;show((List.range k).map _)[t%k]! =_;rw[getElem!_pos _ _ (by simp[K])];simp
  have hH:HoldsK enc k w l.da l.sh (Array.ofFn (fun i:Fin (n+1)=>i)):=fun t C=>by
   rw[size_flatK,Array.size_ofFn] at C;obtain⟨u,y,Q,G,k3,k4⟩:=A t C;have hdiv:t/k<n+1:=Nat.div_lt_of_lt_mul (by rw[Nat.mul_comm];exact C);refine⟨?_,frozen?_of_heap W _<|am Z _ oM⟩;rw[cell?_of_heap W,I _ _ (by rw[Array.size_ofFn];exact C)];rw[show(Array.ofFn (fun i:Fin (n+1)=>i))[t/k]! =⟨t/k,hdiv⟩ from Jz ⟨t/k,hdiv⟩];dsimp only;rw[Nat.div_add_mod' t k,G,getElem!_def,G];rfl
  have hblk:=hi.da b l hl
  have hW:∀(m:Nat) (os:Array Obj) (dk:Array (Fin (n+1))),Inv O (LO V b) (sortWorldK enc k w l.da l.sh m dk os):=fun m os dk=>by
   refine hi.LO hb Z hl ?_ fun r hr hne=>?_
   ·show w.heap.size<=((w.heap.modify l.da _)++os).size;simp
   show((w.heap.modify l.da _)++os)[r]? =_;rw[Array.getElem?_append_left (by simpa using hr),Array.getElem?_modify,if_neg<|Ne.symm hne]
  have ab:CmpLays P g #[] enc k cf l.da l.sh (Array.ofFn (fun i:Fin (n+1)=>i)).size w:=fun m os dk _ x y=>by
   have hv:∀z:Fin (n+1),VR O (FN k cells z.val) (.agg (enc z).toArray):=fun z=>by
    unfold FN;simp only[VR];refine⟨_,Z,cT.sub ?_ (E z) fun j hj=>?_⟩
    ·have:=aa z (k-1) oM;omega
    obtain⟨u,y,Q,G,k3,_⟩:=F z j hj;exact⟨u,y,Q,G,k3⟩
   refine(uc hm hC (hW m os dk) hg (vq _ _) (cT.cons (hv x)<|cT.cons (hv y) cT.nil)<|ai x y).mono fun e w' ⟨v,z,_,ρ',he,a5,ao,a9⟩=>?_
   subst a9;simp only[VR] at ao;subst ao;exact⟨he,a5.grown⟩
  have ap:(Array.ofFn (fun i:Fin (n+1)=>i)).size=n+1:=Array.size_ofFn;have hcall:=AnyQ.slices_SortFunc_eq L k aE zE enc E h1c cf hO g #[] l.da l.sh cp (Array.ofFn (fun i:Fin (n+1)=>i)) w (eg g av) ab hH hblk (by rw[ap];exact hn);rw[ap] at hcall;refine hcall.mono fun e' w' ⟨he,nd,os,bb⟩=>?_
  subst bb;change e'=_ at he;have hds:=sB hO;change∃x ρ',e'= .returned x/\VR ρ' (.tuple []) x/\Inv ρ' (V.setObj b (.row (eN k cells<|js cf) e false)) (sortWorldK enc k w l.da l.sh nd (js cf) os)/\eF O V w ρ' (V.setObj b (.row (eN k cells<|js cf) e false)) (sortWorldK enc k w l.da l.sh nd (js cf) os);generalize js cf=d at hds⊢;refine⟨_,O,he,by simp only[VR];exact⟨#[],Z,cT.nil⟩,?_⟩
  let w1:World:=putRowK enc k (Sort.ahead w nd) l.da l.sh d
  have bd:w1.heap[l.da]? =some (.cells (putCells id l.sh (flatK enc k d) c) e fr):=by
   show(w.heap.modify l.da _)[l.da]? =_;rw[Array.getElem?_modify,if_pos Z,W];rfl
  have ac:(eN k cells d).length=cells.length:=by
   unfold eN;rw[lA_,lM_,List.length_range,lD_,hds];omega
  have aq:fR O l (.row (eN k cells d) e false) (.cells (putCells id l.sh (flatK enc k d) c) e fr):=by
   refine⟨_,fr,Z,by unfold putCells;rw[Array.size_mapIdx];exact a1,by rw[ac];exact a2,fun t u hu=>?_,am⟩;unfold putCells;rw[Array.getElem?_mapIdx,size_flatK,hds]
   by_cases C:t<(n+1)*k
   ·have hdiv:t/k<n+1:=Nat.div_lt_of_lt_mul (by rw[Nat.mul_comm];exact C);have K:t%k<k:=Nat.mod_lt _ hk;obtain⟨u',y,Q,G,k3,_⟩:=A _ (aa (d[t/k]!) (t%k) K);obtain⟨_,y0,_,be,_,_⟩:=A t C
    have bf:u=u':=by
     unfold eN at hu;rw[hds,gL_ (by rw[lM_,List.length_range];exact C),gM_,List.getElem?_range C] at hu;simp only[Option.map_some,oJ_] at hu;rw[<-hu,List.getD_eq_getElem?_getD,Q];rfl
    subst bf;refine⟨y,?_,k3⟩;rw[be];simp only[Option.map_some,id];rw[if_pos ⟨by omega,by omega⟩,Nat.add_sub_cancel_left,I d t (by rw[hds];exact C),getElem!_def,G]
   have bi:cells[t]? =some u:=by
    unfold eN at hu;rw[hds,gR_ (by rw[lM_,List.length_range];omega),lM_,List.length_range,List.getElem?_drop] at hu;rwa[Nat.add_sub_cancel' oM] at hu
   obtain⟨y,Q,G⟩:=al t u bi;refine⟨y,?_,G⟩;rw[Q];simp only[Option.map_some];rw[if_neg oM]
  have hch:=hi.change (w':=w1) (o':=.row (eN k cells d) e false) hb hl Z Z bd aq (fun r hr=>by
   show(w.heap.modify l.da _)[r]? =_;rw[Array.getElem?_modify,if_neg<|Ne.symm hr]) (by show(w.heap.modify l.da _).size=_;simp) Z Z ⟨Z,Nat.le_add_right _ _⟩
  have bk:hJ w1 (Go.Sort.grow w1 os):=⟨Z,⟨Z,nR_ _⟩,Z,by show w1.heap.size<=(w1.heap++os).size;rw[Array.size_append];omega,fun r hr=>by show(w1.heap++os)[r]? =_;rw[Array.getElem?_append_left hr]⟩;obtain⟨i2,s2⟩:=bk.inv hch.1;exact⟨i2,hch.2.trans s2⟩
 cases h
end
end Go.Ev
namespace Go.Ev
variable [Env]
open Go.Proofs Go.Sort
section
variable {V:N} {K K':KP} {L:Own}
open Classical in
theorem St.EP (h:St V K' L) (hle:KP.le K K'):∃M,St V K (M++L)/\KP.le K' (K.ml M):=by
 have key:∀n,∃M:Own,(∀e∈M,K' e.1 e.2/\(∀o,¬K e.1 o)/\e.1<n)/\M.Pairwise (fun a b=>a.1≠b.1)/\∀b o,b<n->K' b o->K b o∨(b,o)∈M:=by
  intro n;induction n with
  | zero=>exact⟨[],(fun e he=>by cases he),List.Pairwise.nil,fun b o hb=>absurd hb (nZ_ _)⟩
  | succ n ih=>
   obtain⟨M,h1,A,C⟩:=ih
   by_cases hk:(∃o,K' n o)/\∀o,¬K n o
   ·obtain⟨⟨o,m⟩,I⟩:=hk;refine⟨(n,o)::M,fun e he=>?_,List.pairwise_cons.2 ⟨fun e he=>fun hh=>by have:=(h1 e he).2.2;have hh:n=e.1:=hh;omega,A⟩,fun b o' hb d=>?_⟩
    ·rcases mQ_.1 he with rfl | he
     ·exact⟨m,I,Nat.lt_succ_self _⟩
     obtain⟨a,b,c⟩:=h1 e he;exact⟨a,b,Nat.lt_succ_of_lt c⟩
    by_cases u:b=n
    ·subst u;have e1:=(h.kept _ _ m).2.1;have e2:=(h.kept _ _ d).2.1;rw[e1] at e2;cases e2;exact .inr<|mS_ ..
    rcases C b o' oM d with h4 | h4
    ·exact .inl h4
    exact .inr<|mC_ _ h4
   refine⟨M,fun e he=>let ⟨a,b,c⟩:=h1 e he;⟨a,b,Nat.lt_succ_of_lt c⟩,A,fun b o' hb d=>?_⟩
   by_cases u:b=n
   ·subst u;have:∃o,K b o:=Classical.byContradiction fun hh=>hk ⟨⟨o',d⟩,fun o m=>hh ⟨o,m⟩⟩
    obtain⟨o,m⟩:=this;have e1:=(h.kept _ _<|hle _ _ m).2.1;have e2:=(h.kept _ _ d).2.1;rw[e1] at e2;cases e2;exact .inl m
   exact C b o' oM d
 obtain⟨M,h1,A,C⟩:=key V.next;refine⟨M,⟨fun b o hb=>?_,fun e he=>?_,?_⟩,fun b o hb=>?_⟩
 ·obtain⟨E,F,Q⟩:=h.kept b o (hle _ _ hb);refine⟨E,F,fun e he=>?_⟩;rcases List.mem_append.1 he with he | he
  ·exact fun hh=>(h1 e he).2.1 o (hh ▸ hb)
  exact Q e he
 ·rcases List.mem_append.1 he with he | he
  ·obtain⟨E,F,_⟩:=h.kept _ _ (h1 e he).1;exact⟨E,F⟩
  exact h.own e he
 ·refine List.pairwise_append.2 ⟨A,h.ne,fun a R b hb=>fun hh=>(h.kept _ _ (h1 a R).1).2.2 b hb hh.symm⟩
 rcases C b o (h.kept _ _ hb).1 hb with h4 | h4
 ·exact .inl h4
 exact .inr h4
theorem St.frame {V0:N} {b:KP} (h0:St V0 K L) (hle:KP.le b K):
  ∃N_,St V0 b (N_++L)/\∀(V:N) (m:KP) (d:Own),KP.le b m->St V m (N_++d)->∃M,St V K (M++d)/\KP.le m (b.ml M):=by
 obtain⟨N_,h1,u⟩:=h0.EP hle;refine⟨N_,h1,fun V m d A h4=>?_⟩;obtain⟨M,h5,C⟩:=h4.EP A;refine⟨M,?_,C⟩;have E:St V b (N_++(M++d)):=h5.perm (by rw[<-lQ_,<-lQ_];exact(List.perm_append_comm).append_right d);exact(St.keeps E).weaken u
end
def KP.ro (K:KP):KP:=fun b o=>∃o',K b o'/\Nf o'=some o
theorem St.ro {V:N} {K:KP} {L:Own} {b:Nat} {o:cu} (h:St V K ((b,o)::L)):St (LO V b) K.ro [] where
 kept b' o' hb:=by
  obtain⟨m,h1,u⟩:=hb;obtain⟨d,A,C⟩:=h.kept b' m h1;refine⟨d,?_,fun e he=>by cases he⟩;show(KH V b V.next).get b'=some o';rw[AL,if_pos ⟨d,fun e=>C _ (mS_ ..) e.symm⟩,A];exact u
 own e he:=by cases he
 ne:=List.Pairwise.nil
theorem bG.ro {α:Type} {K:KP} {m:Nat} {R:α->List J->Prop} {l:List α} {v:J} (h:bG K m R l v):bG K.ro m R l v:=by
 rcases h with h | ⟨b,off,c,cells,e,ro,h1,d,u,h4⟩
 ·exact .inl h
 exact .inr ⟨b,off,c,cells,e,true,h1,d,⟨_,u,Z⟩,h4⟩
theorem bG.Sd {α:Type} {K:KP} {m n:Nat} {R:α->List J->Prop} {l:List (List α)} {v:J} (h:bG K n (RL K m R) l v):bG K.ro n (RL K.ro m R) l v:=by
 rcases h with h | ⟨b,off,c,cells,e,ro,h1,d,u,h4,h5,A⟩
 ·exact .inl h
 exact .inr ⟨b,off,c,cells,e,true,h1,d,⟨_,u,Z⟩,h4,h5,fun i x hx=>let ⟨v,e,h⟩:=A i x hx;⟨v,e,h.ro⟩⟩
theorem dj.ro {K:KP} {g:XG} {a b c d:J} (h:dj K g a b c d):dj K.ro g a b c d:=⟨h.init.ro,h.threads.Sd,h.from_.Sd,h.order.Sd⟩
theorem yb {m:Nat} {cells:List J} {n:Nat} {d:Array (Fin (n+1))} (hm:0<m) (hd:d.size=n+1) (hl:cells.length=(n+1)*m) {i:Nat} (hi:i<n+1):
  ((eN m cells d).drop (i*m)).take m=(cells.drop ((d[i]!).val*m)).take m:=by
 have hx:(d[i]!).val<n+1:=(d[i]!).isLt;have b:(i+1)*m<=(n+1)*m:=nM_ _ hi;have u:((d[i]!).val+1)*m<=(n+1)*m:=nM_ _ hx;rw[Nat.add_mul,Nat.one_mul] at b u;refine List.ext_getElem? fun j=>?_
 rw[List.getElem?_take,List.getElem?_take]
 by_cases hj:j<m
 ·rw[if_pos hj,if_pos hj,List.getElem?_drop,List.getElem?_drop];unfold eN;rw[hd,gL_ (by rw[lM_,List.length_range];omega),gM_,List.getElem?_range oM];have e1:(i*m+j)/m=i:=by rw[Nat.mul_comm,Nat.mul_add_div hm,Nat.div_eq_of_lt hj];rfl
  have e2:(i*m+j)%m=j:=by rw[Nat.mul_comm,Nat.mul_add_mod,Nat.mod_eq_of_lt hj]
  simp only[Option.map_some,e1,e2];rw[List.getD_eq_getElem?_getD,gC oM];rfl
 rw[if_neg hj,if_neg hj]
section
variable {P:Program} {G G0:Cx}
theorem Ji {f:Nat} {args:List J} {V V':N} {v:J} {R:J->N->Prop} (hk:G.x6 f args V=some (v,V')) (h:R v V'):aW P G f args V R:=by
 refine⟨0,v,V',fun k _=>?_,h⟩;unfold kb;rw[hk]
theorem FR {α:Type} {m E f g:Nat} {gs:Nat->Bool} {R:α->List J->Prop} {c:α->α->Int} (hm:0<m) (hO:SWO (fun x y=>decide (c x y<0))) (hS:∀a s,G.x6 f a s=sA P G0 f m gs f a s) (ab:gs g=true)
  (F:∀x vs,R x vs->bO vs=true) {l:List α} {u:J} {M L:Own} {V:N} {K:KP} (h:cS m E R l u M) (hne:l≠[]∨u= .au) (aq:St V K (M++L))
  (T:∀σ2,St σ2 K.ro []->∀x y vx vy,R x vx->R y vy->aW P G0 g [.agg vx,.agg vy] σ2 fun v _=>v= .int .i64 (c x y)):
  aW P G f [u,.func g [] []] V fun v V'=>v= .tuple []/\∃l' M',l'.Perm l/\l'.Pairwise (fun x y=>decide (c y x<0)=false)/\cS m E R l' u M'/\St V' K (M'++L):=by
 rcases h with ⟨rfl,rfl,rfl⟩ | ⟨b,cp,cells,e,rfl,rfl,U,h4,h5,h6⟩
 ·refine Ji (v:=.tuple []) (V':=V) (by rw[hS];unfold sA;rw[if_pos Z]) ⟨Z,[],[],List.Perm.refl _,List.Pairwise.nil,.inl ⟨Z,Z,Z⟩,aq⟩
 obtain⟨n,hn⟩:∃n,l.length=n+1:=by
  rcases hne with hne | hne
  ·cases l with
   | nil=>exact absurd Z hne
   | cons x l=>exact⟨l.length,Z⟩
  cases hne
 rw[hn] at U h5 h6⊢;have hb:V.m.get b=some (.row cells e false):=aq.get 0 Z
 let xs:Fin (n+1)->α:=fun i=>l[i.val]'(by rw[hn];exact i.isLt)
 have C:∀i:Fin (n+1),l[i.val]? =some (xs i):=fun i=>gC _
 let cf:Fin (n+1)->Fin (n+1)->Int:=fun i j=>c (xs i) (xs j)
 have I:∀i j,ltOf cf i j=decide (c (xs i) (xs j)<0):=fun i j=>Z
 have Q:SWO (ltOf cf):=⟨fun x=>by rw[I];exact hO.irrefl _,fun x y z h1 h2=>by rw[I] at*;exact hO.trans _ _ _ h1 h2,fun x y z h1 h2=>by rw[I] at*;exact hO.ntrans _ _ _ h1 h2⟩;have W:St (LO V b) K.ro []:=aq.ro;have hC:Bm P G0 m g V b cells n cf:=⟨Q,fun x y=>T _ W _ _ _ _ (h4 _ _<|C x) (h4 _ _<|C y)⟩;have X:IV cp=true:=by rcases h5 with rfl | ⟨rfl,_⟩<;>rfl
 have ac:bO (cells.take ((n+1)*m))=true:=by
  rw[<-U,List.take_length]
  have key:∀v∈cells,fJ v=true:=fun v hv=>by
   obtain⟨t,ht,hv⟩:=List.getElem_of_mem hv;have hq:t/m<n+1:=Nat.div_lt_of_lt_mul (by rw[Nat.mul_comm,<-U];exact ht);have h7:=F _ _ (h4 _ _<|C ⟨t/m,hq⟩);refine k9 h7 v<|gB_ (i:=t%m) ?_;rw[List.getElem?_take,if_pos<|Nat.mod_lt _ hm,List.getElem?_drop,Nat.div_add_mod',gC ht,hv]
  exact qY key
 have A:((n+1)*m<=cells.length/\n+1<4611686018427387904/\gs g=true/\IV cp=true/\bO (cells.take ((n+1)*m))=true)/\∃cf,Bm P G0 m g V b cells n cf:=⟨⟨by omega,by omega,ab,X,ac⟩,cf,hC⟩
 have hk:G.x6 f [.slice b 0 (n+1) cp,.func g [] []] V=some (.tuple [],V.setObj b (.row (eN m cells<|js<|Classical.choose A.2) e false)):=by
  rw[hS];unfold sA;rw[if_pos Z];simp only[hb];rw[dif_pos A]
 have ad:Bm P G0 m g V b cells n (Classical.choose A.2):=Classical.choose_spec A.2
 have aa:Classical.choose A.2=cf:=by
  funext i j;obtain⟨k1,v1,s1,e1,r1⟩:=ad.2 i j;obtain⟨k2,v2,s2,e2,r2⟩:=hC.2 i j;have a1:=e1 (max k1 k2) oM;have a2:=e2 (max k1 k2) oM;rw[a1] at a2;cases a2;have r3:=r1.symm.trans r2;injection r3
 rw[aa] at hk;have hsz:=sB Q;have hsorts:=pdq_sorts (ltOf cf) Q (Array.ofFn (fun i:Fin (n+1)=>i)) 0 (n+1) (Lib.bitLen (n+1)) true true (Nat.zero_le _) (by rw[Array.size_ofFn];exact nR_ _) (Or.inl Z);change PermIn 0 (n+1) _ (js cf)/\SortedIn (ltOf cf) 0 (n+1) (js cf) at hsorts;generalize js cf=d at hk hsz hsorts;obtain⟨⟨_,_,hp⟩,hs⟩:=hsorts
 have ai:d.toList.Perm (List.ofFn fun i:Fin (n+1)=>i):=by
  have e1:d.extract 0 (n+1)=d:=by have:=Array.extract_size (xs:=d);rwa[hsz] at this
  have e2:(Array.ofFn (fun i:Fin (n+1)=>i)).extract 0 (n+1)=Array.ofFn (fun i:Fin (n+1)=>i):=by
   have:=Array.extract_size (xs:=Array.ofFn (fun i:Fin (n+1)=>i));rwa[Array.size_ofFn] at this
  rw[e1,e2] at hp;simpa using hp
 refine Ji hk ⟨Z,d.toList.map xs,[(b,.row (eN m cells d) e false)],?_,?_,?_,aq.tO _⟩
 ·refine(ai.map xs).trans ?_
  have:(List.ofFn fun i:Fin (n+1)=>i).map xs=l:=by
   refine List.ext_getElem? fun i=>?_
   rw[gM_,List.getElem?_ofFn]
   by_cases hi:i<n+1
   ·rw[dif_pos hi];exact(C ⟨i,hi⟩).symm
   rw[dif_neg hi,gN_ oM];rfl
  rw[this]
 ·refine List.pairwise_map.2<|List.pairwise_iff_getElem.2 fun i j hi hj al=>?_;have am:i<d.size:=by simpa using hi
  have an:j<d.size:=by simpa using hj
  have:=hs i j (Nat.zero_le _) al oM;rw[getElem!_pos _ j an,getElem!_pos _ i am] at this;exact this
 have hlen:(d.toList.map xs).length=n+1:=by rw[lM_,Array.length_toList,hsz]
 refine .inr ⟨b,cp,eN m cells d,e,by rw[hlen],Z,?_,fun i x hx=>?_,by rw[hlen];exact h5,by rw[hlen];omega⟩
 ·unfold eN;rw[lA_,lM_,List.length_range,lD_,hsz,hlen,U];omega
 have hi:i<n+1:=by rw[<-hlen];exact(gA.1 hx).1
 rw[yb hm hsz U hi];refine h4 _ _ ?_;rw[C (d[i]!)];rw[gM_,aT_,aG_ oM] at hx;rw[getElem!_pos _ i oM];exact hx
end
end Go.Ev
namespace Go.Ev
variable {α:Type}
structure sR (c:α->α->Int) (P:α->Prop):Prop where
 zero:∀x y,P x->P y->(c x y=0↔x=y)
 neg:∀x y,P x->P y->(c x y<0↔0<c y x)
 trans:∀x y z,P x->P y->P z->c x y<0->c y z<0->c x z<0
def vA (c:α->α->Int) (l:List α):Prop:=l.Pairwise fun x y=>c x y<0
def ic (c:α->α->Int):List α->α->List α
 | [],x=>[x]
 | y::l,x=>if c y x<0 then y::ic c l x else if c y x=0 then y::l else x::y::l
def fT (c:α->α->Int) (l:List α):List α:=l.foldl (ic c) []
def ke (c:α->α->Int):α->List α->List α
 | _,[]=>[]
 | p,x::l=>if c x p=0 then ke c x l else x::ke c x l
def cW (c:α->α->Int):List α->List α
 | []=>[]
 | x::l=>x::ke c x l
section
variable {c:α->α->Int} {P:α->Prop}
theorem sR.Qh (h:sR c P) {x:α} (hx:P x):¬c x x<0:=by
 rw[(h.zero x x hx hx).2 Z];omega
theorem l8 (h:sR c P):∀{l m:List α},(∀x∈l,P x)->(∀x∈m,P x)->vA c l->vA c m->(∀x,x∈l↔x∈m)->l=m
 | [],[],_,_,_,_,_=>rfl
 | [],y::m,_,_,_,_,he=>by cases (he y).2 (mS_ ..)
 | x::l,[],_,_,_,_,he=>by cases (he x).1 (mS_ ..)
 | x::l,y::m,hl,hm,il,im,he=>by
  obtain⟨d,A⟩:=List.pairwise_cons.1 il;obtain⟨u,C⟩:=List.pairwise_cons.1 im;have px:=hl x (mS_ ..);have py:=hm y (mS_ ..)
  have b:x=y:=by
   rcases mQ_.1 ((he x).1<|mS_ ..) with e | hx
   ·exact e
   rcases mQ_.1 ((he y).2<|mS_ ..) with e | hy
   ·exact e.symm
   exact absurd (h.trans x y x px py px (d y hy)<|u x hx)<|h.Qh px
  subst b
  have:l=m:=l8 h (fun z hz=>hl z (mC_ _ hz)) (fun z hz=>hm z (mC_ _ hz)) A C fun z=>by
   constructor
   ·intro hz;rcases mQ_.1 ((he z).1<|mC_ _ hz) with e | hz'
    ·subst e;exact absurd (d z hz)<|h.Qh px
    exact hz'
   intro hz;rcases mQ_.1 ((he z).2<|mC_ _ hz) with e | hz'
   ·subst e;exact absurd (u z hz)<|h.Qh px
   exact hz'
  rw[this]
theorem r5 (h:sR c P):∀{l:List α} {x z:α},(∀y∈l,P y)->P x->(z∈ic c l x↔z=x∨z∈l)
 | [],x,z,_,_=>by unfold ic;simp
 | y::l,x,z,hl,hx=>by
  have py:=hl y (mS_ ..);unfold ic;split
  ·rw[mQ_,r5 h (fun w hw=>hl w (mC_ _ hw)) hx,mQ_];exact⟨fun h=>by rcases h with h | h | h<;>simp[h],fun h=>by rcases h with h | h | h<;>simp[h]⟩
  split
  ·rename_i h0;have e:=(h.zero y x py hx).1 h0;subst e;constructor
   ·exact .inr
   rintro (rfl | h)
   ·exact mS_ ..
   exact h
  rw[mQ_]
theorem yP (h:sR c P):∀{l:List α} {x:α},(∀y∈l,P y)->P x->vA c l->vA c (ic c l x)
 | [],x,_,_,_=>List.pairwise_singleton ..
 | y::l,x,hl,hx,hi=>by
  obtain⟨u,A⟩:=List.pairwise_cons.1 hi;have py:=hl y (mS_ ..);have b:∀w∈l,P w:=fun w hw=>hl w (mC_ _ hw)
  unfold ic;split
  ·rename_i m;refine List.pairwise_cons.2 ⟨fun z hz=>?_,yP h b hx A⟩;rcases (r5 h b hx).1 hz with rfl | hz
   ·exact m
   exact u z hz
  split
  ·exact hi
  rename_i h1 h2;have d:c x y<0:=(h.neg x y hx py).2 oM;refine List.pairwise_cons.2 ⟨fun z hz=>?_,hi⟩;rcases mQ_.1 hz with rfl | hz
  ·exact d
  exact h.trans x y z hx py (b z hz) d<|u z hz
theorem NS (h:sR c P):∀{l a:List α},(∀x∈l,P x)->(∀x∈a,P x)->vA c a->vA c (l.foldl (ic c) a)/\(∀z,z∈l.foldl (ic c) a↔z∈a∨z∈l)
 | [],a,_,_,hi=>⟨hi,fun z=>by simp⟩
 | x::l,a,hl,b,hi=>by
  have px:=hl x (mS_ ..)
  have d:∀z∈ic c a x,P z:=fun z hz=>by
   rcases (r5 h b px).1 hz with rfl | hz
   ·exact px
   exact b z hz
  obtain⟨h1,m⟩:=NS h (l:=l) (a:=ic c a x) (fun z hz=>hl z (mC_ _ hz)) d (yP h b px hi);refine⟨h1,fun z=>?_⟩;show z∈l.foldl (ic c) (ic c a x)↔_;rw[m,r5 h b px,mQ_];constructor
  ·rintro ((h | h) | h)<;>simp[h]
  rintro (h | h | h)<;>simp[h]
theorem sy (h:sR c P) {l:List α} (hl:∀x∈l,P x):vA c (fT c l)/\∀z,z∈fT c l↔z∈l:=by
 obtain⟨h1,b⟩:=NS h (l:=l) (a:=[]) hl (fun _ hx=>by cases hx) List.Pairwise.nil;exact⟨h1,fun z=>by show z∈l.foldl (ic c) []↔_;rw[b];simp⟩
def DL (c:α->α->Int) (l:List α):Prop:=l.Pairwise fun x y=>¬c y x<0
theorem BK (h:sR c P):∀{l:List α} {p:α},P p->(∀x∈l,P x)->DL c (p::l)->vA c (p::ke c p l)/\∀z,z∈p::ke c p l↔z∈p::l
 | [],p,_,_,_=>⟨List.pairwise_singleton ..,fun z=>Iff.rfl⟩
 | x::l,p,hp,hl,C=>by
  obtain⟨E,F⟩:=List.pairwise_cons.1 C;have px:=hl x (mS_ ..);have b:∀w∈l,P w:=fun w hw=>hl w (mC_ _ hw)
  obtain⟨m,u⟩:=BK h px b F;unfold ke;split
  ·rename_i h0;have e:=(h.zero x p px hp).1 h0;subst e;refine⟨m,fun z=>?_⟩;rw[u,mQ_,mQ_];constructor
   ·rintro (h | h)<;>simp[h]
   rintro (h | h)
   ·exact .inl h
   exact mQ_.1 h
  rename_i h0
  have d:c p x<0:=by
   have hn:¬c x p<0:=E x (mS_ ..);exact(h.neg p x hp px).2 oM
  refine⟨List.pairwise_cons.2 ⟨fun z hz=>?_,m⟩,fun z=>?_⟩
  ·rcases mQ_.1 hz with rfl | hz
   ·exact d
   have A:P z:=by
    rcases mQ_.1 ((u z).1<|mC_ _ hz) with rfl | h
    ·exact px
    exact b z h
   exact h.trans p x z hp px A d ((List.pairwise_cons.1 m).1 z hz)
  rw[mQ_,u,mQ_,mQ_,mQ_]
theorem Ed (h:sR c P) {l:List α} (hl:∀x∈l,P x) (b:DL c l):vA c (cW c l)/\∀z,z∈cW c l↔z∈l:=by
 cases l with
 | nil=>exact⟨List.Pairwise.nil,fun z=>Iff.rfl⟩
 | cons x l=>exact BK h (hl x<|mS_ ..) (fun z hz=>hl z (mC_ _ hz)) b
theorem AT (h:sR c P) {l s:List α} (hl:∀x∈l,P x) (hp:s.Perm l) (u:DL c s):cW c s=fT c l:=by
 have b:∀x∈s,P x:=fun x hx=>hl x (hp.mem_iff.1 hx)
 obtain⟨A,d⟩:=Ed h b u;obtain⟨C,m⟩:=sy h hl;exact l8 h (fun x hx=>b x ((d x).1 hx)) (fun x hx=>hl x ((m x).1 hx)) A C fun z=>by rw[d,m,hp.mem_iff]
end
end Go.Ev
namespace Go.Ev
variable [Env]
theorem ru:sR dQ fun _=>True where
 zero x y _ _:=⟨FK,fun h=>by subst h;exact Hh x⟩
 neg x y _ _:=by have:=CL.oi x y;omega
 trans x y z _ _ _ h1 h2:=by
  have a1:=CL.oi x y;have a2:=CL.oi y z;have a3:=CL.oi x z;have t:=CL.trans x y z oM oM;refine Classical.byContradiction fun hn=>?_
  have h0:dQ x z=0:=by omega
  have e:=FK h0;subst e;omega
theorem La {α:Type} {c:α->α->Int} (h:sR c fun _=>True):Sort.SWO fun x y=>decide (c x y<0) where
 irrefl x:=decide_eq_false (h.Qh trivial)
 trans x y z h1 h2:=decide_eq_true (h.trans x y z trivial trivial trivial (of_decide_eq_true h1)<|of_decide_eq_true h2)
 ntrans x y z h1 h2:=decide_eq_false fun d=>by
  have n1:=of_decide_eq_false h1;have n2:=of_decide_eq_false h2
  have ge:∀a b:α,¬c a b<0->a=b∨c b a<0:=fun a b hn=>by
   by_cases h0:c a b=0
   ·exact .inl ((h.zero a b trivial trivial).1 h0)
   exact .inr ((h.neg b a trivial trivial).2 oM)
  rcases ge x y n1 with e | e1
  ·subst e;exact n2 d
  rcases ge y z n2 with e | e2
  ·subst e;exact n1 d
  exact h.Qh trivial<|h.trans x z x trivial trivial trivial d<|h.trans z y x trivial trivial trivial e2 e1
end Go.Ev
namespace Go.Ev
section
variable {H_:Type}
def lS:DataW H_->Int
 | .lit (.int _ n)=>n
 | _=>0
def Qn:DataW H_->List Nat
 | .lit (.string s)=>s.map UInt8.toNat
 | _=>[]
def eL:DataW H_->List (DataW H_)
 | .slice l _=>l
 | _=>[]
def cD (d:DataW H_) (i:Nat):DataW H_:=
 match d with
 | .agg ps=>ps.getD i .nil
 | _=>.nil
def Ii:Nat->DataW H_->XE
 | 0,_=>.mk 0 0 [] []
 | 1,_=>.mk 0 0 [] []
 | k+2,d=>.mk (lS<|cD d 0) (lS<|cD d 1) (Qn<|cD d 2) ((eL<|cD d 3).map<|Ii k)
def Pt (k:Nat) (d:DataW H_):XI:=⟨lS<|cD d 0,lS<|cD d 1,lS<|cD d 2,lS<|cD d 3,lS<|cD d 4,(eL<|cD d 5).map<|Ii k⟩
def Ps (k:Nat) (d:DataW H_):XC:=⟨lS<|cD d 0,(eL<|cD d 1).map<|Pt k⟩
end
section
variable [Env] {H_:Type} {P:Program} {V:N}
def xN (n:Int):Prop:=-9223372036854775808<=n/\n<=9223372036854775807
theorem gi {fuel:Nat} {t:TypeId} {d:DataW H_} {vs:List J} {k:IntKind} (hu:P.underlying t=some (.int k)) (hf:Fit P fuel t d) (hd:dq P V fuel t d vs):vs= [.int k<|lS d]/\(Lit.int k<|lS d).wf=true:=by
 cases fuel with
 | zero=>exact hf.elim
 | succ fuel=>
  unfold Fit at hf;rw[hu] at hf;obtain⟨n,rfl⟩:=hf;unfold dq at hd;rw[hu] at hd;obtain⟨_,b,rfl⟩:=hd;exact⟨Z,b⟩
theorem Pp {fuel:Nat} {t:TypeId} {d:DataW H_} {vs:List J} (hu:P.underlying t=some .string) (hf:Fit P fuel t d) (hd:dq P V fuel t d vs):vs= [.str<|Qn d]:=by
 cases fuel with
 | zero=>exact hf.elim
 | succ fuel=>
  unfold Fit at hf;rw[hu] at hf;obtain⟨n,rfl,_⟩:=hf;unfold dq at hd;rw[hu] at hd;exact hd.2
theorem fh {α:Type} {fuel:Nat} {t e:TypeId} {m:Nat} {d:DataW H_} {vs:List J} (F:DataW H_->α) (R:α->List J->Prop) (hu:P.underlying t=some (.slice e)) (hm:P.cellsOf e=m) (h1:1<=m) (A:∀(b:Nat) (o:cu),V.m.get b=some o->b<V.next) (hf:Fit P (fuel+1) t d) (hd:dq P V (fuel+1) t d vs)
  (hR:∀x vs,Fit P fuel e x->dq P V fuel e x vs->R (F x) vs):∃v,vs= [v]/\bG (pI V) m R ((eL d).map F) v:=by
 unfold Fit at hf;rw[hu] at hf;dsimp only at hf;unfold dq at hd;rw[hu] at hd;rcases hf with rfl | ⟨elems,spare,rfl,aa⟩
 ·dsimp only at hd;exact⟨_,hd,.inl ⟨Z,Z⟩⟩
 dsimp only at hd;rw[hm] at hd;obtain⟨b,c,cells,e',rfl,C,u,E,G,k6⟩:=hd h1;refine⟨_,Z,.inr ⟨b,0,c,cells,e',true,by rw[show(eL<|DataW.slice elems spare).map F=elems.map F from Z,lM_],?_,⟨A b _ u,u⟩,?_,?_,fun i x hx=>?_⟩⟩
 ·rw[show(eL<|DataW.slice elems spare).map F=elems.map F from Z,lM_];rcases E with rfl | rfl
  ·exact .inr ⟨_,Z,Nat.le_add_right _ _⟩
  exact .inl Z
 ·rw[show(eL<|DataW.slice elems spare).map F=elems.map F from Z,lM_,G,nA_];exact nR_ _
 ·rw[show(eL<|DataW.slice elems spare).map F=elems.map F from Z,lM_];exact C
 rw[show(eL<|DataW.slice elems spare).map F=elems.map F from Z,gM_,oM_] at hx
 grind
theorem gO {fuel:Nat} {t:TypeId} {fs:Array Field} {d:DataW H_} {vs:List J} {m:Nat} (hu:P.underlying t=some (.struct fs)) (hc:P.cellsOf t=m) (ht:pz P fs.toList 0=some m) (hf:Fit P (fuel+1) t d) (hd:dq P V (fuel+1) t d vs):
  vs.length=m/\∀(i:Nat) (f:Field),fs[i]? =some f->Fit P fuel f.type (cD d i)/\dq P V fuel f.type (cD d i) ((vs.drop f.offset).take<|P.cellsOf f.type):=by
 unfold Fit at hf;rw[hu] at hf;dsimp only at hf;obtain⟨parts,rfl,hn,aa⟩:=hf;unfold dq at hd
 grind [cD]
theorem bG.jC {α:Type} {K:KP} {m:Nat} {R R':α->List J->Prop} {l:List α} {v:J} (h:bG K m R l v) (b:∀x vs,R x vs->R' x vs):bG K m R' l v:=h.mono (KP.le_refl K) b
theorem gY.up {K:KP}:∀{k:Nat} {x:XE} {vs:List J},gY K k x vs->gY K (k+1) x vs
 | 0,x,_,h=>by cases x;exact h.elim
 | k+1,.mk op num name kids,vs,h=>by
  obtain⟨v,rfl,hk⟩:=h;exact⟨v,Z,hk.jC fun x vs h=>gY.up h⟩
end
theorem Hf {H_:Type} {enc:TypeId×Value->H_} {P:Program} {w w':World} {sp:Nat->Bool} (d:∀r:Nat,r<w.heap.size->w'.heap[r]? =w.heap[r]?) {fuel:Nat} {t:TypeId} {cs:List Value} {x:DataW H_×List MemPlace}
  (h:DataW.trod enc P w 0 sp true fuel t cs=some x):DataW.trod enc P w' 0 sp true fuel t cs=some x:=by
 refine DataW.trod_carry fuel t cs x h fun p hp=>?_
 have hlt:=DataW.trod_lt fuel t cs x h p hp;cases p with
 | cell b off=>
  show w'.cell? ⟨b,off,none⟩=w.cell? ⟨b,off,none⟩;unfold World.cell?;rw[d b hlt]
 | map b=>exact d b hlt
theorem rV {H_:Type} {enc:TypeId×Value->H_} {P:Program} {w w':World} {sp:Nat->Bool} (b:∀r:Nat,r<w.heap.size->w'.heap[r]? =w.heap[r]?):∀{ts:List TypeId} {vs:List Value} {ds:List (DataW H_)} {ps:List MemPlace},
  DataW.TrodAll enc P w 0 sp true ts vs ds ps->DataW.TrodAll enc P w' 0 sp true ts vs ds ps
 | [],[],[],_,h=>h
 | _::_,_::_,_::_,_,⟨p,q,⟨n,h1⟩,d,e⟩=>⟨p,q,⟨n,Hf b h1⟩,rV b d,e⟩
theorem CP {H_:Type} {enc:TypeId×Value->H_} {P:Program} (hl:laidOutB P=true) (hm:mapsRowed P=true) (hz:((List.range P.types.size).all fun t=>match P.underlying t with | some (.slice e)=>decide (0<P.cellsOf e) | _=>true)=true) {w w':World} (hk:hJ w w') {ts:List TypeId} {vs:List Value} {ds:List (DataW H_)} {ps:List MemPlace}
  (d:(ts.all fun t=>decide (t<P.types.size))=true) (h:DataW.TrodAll enc P w 0 (fun _=>true) true ts vs ds ps) {sp:Nat->Bool} (b:∀p∈ps,sp p.block=true):DataW.TrodAll enc P w' 0 sp true ts vs ds ps:=
 rV hk.same (h.respare (kids_rows hl hm) (slices_full_of P hz) (fun t m=>of_decide_eq_true (aE_.1 d t m)) b)
end Go.Ev
namespace Go.Ev
variable [Env]
open Go.Proofs
set_option maxRecDepth 4000
set_option maxHeartbeats 8000000
theorem Nu {G:Cx} (hG:Plain G) {K:KP} {l1 l2:List Int} {U W:J} {V:N} {L:Own} (aq:St V K L) (h1:bG K 1 (cH) l1 U) (X:bG K 1 (cH) l2 W)
     :aW Tryz.prog G 45 [U,W] V fun v V'=>v= .bool (bW l1 l2)/\St V' K L:=by
  refine SC hG Tryz.func45 Z<|Rh 9 Z<|Y Z (To h1 Z Z Z (e:=2) Z) Z<|vQ 1 Z<|Y Z (To X Z Z Z (e:=2) Z) Z<|R7 3 Z<|aD Z (fun d=>?_) (fun d=>?_)
  · skip
    refine R6 7 Z ?_;exact aA Z Z ⟨by first | rw[dE<|bL d] | (rw[dw u A (by simpa only[mP] using bL C)]) | rw[dh (cN<|a7 d) (bC E) b],aq⟩
  · skip
    refine Qy 9 Z ?_;obtain⟨LL1,aq,hLL1⟩:=aq.named;refine a6 ([4,5]++rg 11 15) (fun j t V=>∃(i:Nat),j+i=l1.length/\(∀k,k<i->l1[k]? =l2[k]?)/\t.get 5=some (.int .i64 (.ofNat i))/\St V K LL1) (l1.length) ⟨0,Z,fun k hk=>absurd hk (nZ_ _),Z,aq⟩ ?_;clear aq;intro j4 t V an hI;obtain⟨i,hj,b,T,aq⟩:=hI;subst hLL1;obtain⟨oo,rfl⟩:=an.q1 T Z;refine Rh 5 Z<|Y Z (To h1 Z Z Z (e:=2) Z) Z<|R7 3 Z<|aD Z (fun E=>?_) (fun E=>?_)
    · skip
      refine PK 5 Z<|aU (l:=zp [0,1,2,3,4,5,6,7,8]) S S<|SJ 2 Z ?_;obtain⟨ai,u,F⟩:=cL E;refine Th (e:=2) (m:=1) h1 u Z Z Z Z Z (fun al aa I ab M=>?_);obtain rfl:=M;refine aj Z Z (Tq aq I Z Z) Z<|SJ 2 Z ?_;obtain⟨am,A⟩:=bZ (show _<l2.length from by rw[<-cN (a7 d)];exact F);refine Th (e:=2) (m:=1) X A Z Z Z Z Z (fun ao ac Q ad R=>?_);obtain rfl:=R;refine aj Z Z (Tq aq Q Z Z) Z<|R9 3 Z<|aD Z (fun C=>?_) (fun C=>?_)
      · skip
        refine SG 6 Z<|aK<|ay<|bq<|aK<|ay (?_);exact aA Z Z ⟨by first | rw[dE<|bL d] | (rw[dw u A (by simpa only[mP] using bL C)]) | rw[dh (cN<|a7 d) (bC E) b],aq⟩
      · skip
        refine aG<|aH<|SF 5 Z<|aL ⟨j4-1,by omega,oF,i+1,by omega,fo b u A (by simpa only[mP] using a7 C),cI<|aX (by have:=h1.bK;omega),aq⟩
    · skip
      refine Ri 3 Z<|aM<|SG 6 Z ?_;exact aA Z Z ⟨by first | rw[dE<|bL d] | (rw[dw u A (by simpa only[mP] using bL C)]) | rw[dh (cN<|a7 d) (bC E) b],aq⟩
theorem Lk {G:Cx} (hG:Plain G) {K:KP} {l1 l2:List cU} {X v2:J} {V:N} {L:Own} (aq:St V K L) (h1:bG K 5 (nX) l1 X) (h2:bG K 5 (nX) l2 v2)
     :aW Tryz.prog G 46 [X,v2] V fun v V'=>v= .bool (bW l1 l2)/\St V' K L:=by
  refine SC hG Tryz.func46 Z<|Rh 9 Z<|Y Z (To h1 Z Z Z (e:=92) Z) Z<|vQ 1 Z<|Y Z (To h2 Z Z Z (e:=92) Z) Z<|R7 3 Z<|aD Z (fun d=>?_) (fun d=>?_)
  · skip
    refine R6 7 Z ?_;exact aA Z Z ⟨by first | rw[dE<|bL d] | (rw[dw u A (by exact(cU.same (x:=F) (y:=I)).symm.trans<|bL C)]) | rw[dh (cN<|a7 d) (bC E) b],aq⟩
  · skip
    refine Qy 9 Z ?_;obtain⟨LL1,aq,hLL1⟩:=aq.named;refine a6 ([4,5]++rg 11 15) (fun j t V=>∃(i:Nat),j+i=l1.length/\(∀k,k<i->l1[k]? =l2[k]?)/\t.get 5=some (.int .i64 (.ofNat i))/\St V K LL1) (l1.length) ⟨0,Z,fun k hk=>absurd hk (nZ_ _),Z,aq⟩ ?_;clear aq;intro j4 t V an hI;obtain⟨i,hj,b,W,aq⟩:=hI;subst hLL1;obtain⟨oo,rfl⟩:=an.q1 W Z;refine Rh 5 Z<|Y Z (To h1 Z Z Z (e:=92) Z) Z<|R7 3 Z<|aD Z (fun E=>?_) (fun E=>?_)
    · skip
      refine PK 5 Z<|aU (l:=zp [0,1,2,3,4,5,6,7,8]) S S<|SJ 2 Z ?_;obtain⟨F,u,M⟩:=cL E;refine Th (e:=92) (m:=5) h1 u Z Z Z Z Z (fun ai aa Q ab R=>?_);obtain rfl:=R;refine aj Z Z (Tr aq Q Z Z) Z<|SJ 2 Z ?_;obtain⟨I,A⟩:=bZ (show _<l2.length from by rw[<-cN (a7 d)];exact M);refine Th (e:=92) (m:=5) h2 A Z Z Z Z Z (fun al ac T ad U=>?_);obtain rfl:=U;refine aj Z Z (Tr aq T Z Z) Z<|aj Z Z (G6 (n:=5) (ca:=[_,_,_,_,_]) (cb:=[_,_,_,_,_]) S Z Z Z Z) Z<|R9 2 Z<|aD Z (fun C=>?_) (fun C=>?_)
      · skip
        refine SG 6 Z<|aK<|ay<|bq<|aK<|ay (?_);exact aA Z Z ⟨by first | rw[dE<|bL d] | (rw[dw u A (by exact(cU.same (x:=F) (y:=I)).symm.trans<|bL C)]) | rw[dh (cN<|a7 d) (bC E) b],aq⟩
      · skip
        refine aG<|aH<|SF 5 Z<|aL ⟨j4-1,by omega,oF,i+1,by omega,fo b u A (by exact(cU.same (x:=F) (y:=I)).symm.trans<|a7 C),cI<|aX (by have:=h1.bK;omega),aq⟩
    · skip
      refine Ri 3 Z<|aM<|SG 6 Z ?_;exact aA Z Z ⟨by first | rw[dE<|bL d] | (rw[dw u A (by exact(cU.same (x:=F) (y:=I)).symm.trans<|bL C)]) | rw[dh (cN<|a7 d) (bC E) b],aq⟩
theorem Od {G:Cx} (hG:Plain G) {K:KP} {l1 l2:List cQ} {X v2:J} {V:N} {L:Own} (aq:St V K L) (h1:bG K 2 (kz) l1 X) (h2:bG K 2 (kz) l2 v2)
     :aW Tryz.prog G 47 [X,v2] V fun v V'=>v= .bool (bW l1 l2)/\St V' K L:=by
  refine SC hG Tryz.func47 Z<|Rh 9 Z<|Y Z (To h1 Z Z Z (e:=59) Z) Z<|vQ 1 Z<|Y Z (To h2 Z Z Z (e:=59) Z) Z<|R7 3 Z<|aD Z (fun d=>?_) (fun d=>?_)
  · skip
    refine R6 7 Z ?_;exact aA Z Z ⟨by first | rw[dE<|bL d] | (rw[dw u A (by exact(cQ.same (x:=F) (y:=I)).symm.trans<|bL C)]) | rw[dh (cN<|a7 d) (bC E) b],aq⟩
  · skip
    refine Qy 9 Z ?_;obtain⟨LL1,aq,hLL1⟩:=aq.named;refine a6 ([4,5]++rg 11 15) (fun j t V=>∃(i:Nat),j+i=l1.length/\(∀k,k<i->l1[k]? =l2[k]?)/\t.get 5=some (.int .i64 (.ofNat i))/\St V K LL1) (l1.length) ⟨0,Z,fun k hk=>absurd hk (nZ_ _),Z,aq⟩ ?_;clear aq;intro j4 t V an hI;obtain⟨i,hj,b,W,aq⟩:=hI;subst hLL1;obtain⟨oo,rfl⟩:=an.q1 W Z;refine Rh 5 Z<|Y Z (To h1 Z Z Z (e:=59) Z) Z<|R7 3 Z<|aD Z (fun E=>?_) (fun E=>?_)
    · skip
      refine PK 5 Z<|aU (l:=zp [0,1,2,3,4,5,6,7,8]) S S<|SJ 2 Z ?_;obtain⟨F,u,M⟩:=cL E;refine Th (e:=59) (m:=2) h1 u Z Z Z Z Z (fun ai aa Q ab R=>?_);obtain rfl:=R;refine aj Z Z (Tr aq Q Z Z) Z<|SJ 2 Z ?_;obtain⟨I,A⟩:=bZ (show _<l2.length from by rw[<-cN (a7 d)];exact M);refine Th (e:=59) (m:=2) h2 A Z Z Z Z Z (fun al ac T ad U=>?_);obtain rfl:=U;refine aj Z Z (Tr aq T Z Z) Z<|aj Z Z (G6 (n:=2) (ca:=[_,_]) (cb:=[_,_]) S Z Z Z Z) Z<|R9 2 Z<|aD Z (fun C=>?_) (fun C=>?_)
      · skip
        refine SG 6 Z<|aK<|ay<|bq<|aK<|ay (?_);exact aA Z Z ⟨by first | rw[dE<|bL d] | (rw[dw u A (by exact(cQ.same (x:=F) (y:=I)).symm.trans<|bL C)]) | rw[dh (cN<|a7 d) (bC E) b],aq⟩
      · skip
        refine aG<|aH<|SF 5 Z<|aL ⟨j4-1,by omega,oF,i+1,by omega,fo b u A (by exact(cQ.same (x:=F) (y:=I)).symm.trans<|a7 C),cI<|aX (by have:=h1.bK;omega),aq⟩
    · skip
      refine Ri 3 Z<|aM<|SG 6 Z ?_;exact aA Z Z ⟨by first | rw[dE<|bL d] | (rw[dw u A (by exact(cQ.same (x:=F) (y:=I)).symm.trans<|bL C)]) | rw[dh (cN<|a7 d) (bC E) b],aq⟩
theorem AY {G:Cx} (hG:Plain G) {K:KP} {g1 d:XG} {a1 b1 c1 d1 a2 b2 c2 d2:J} {V:N} {L:Own} (aq:St V K L) (h1:dj K g1 a1 b1 c1 d1) (h2:dj K d a2 b2 c2 d2):
  aW Tryz.prog G 16 [.agg [a1,b1,c1,d1],.agg [a2,b2,c2,d2]] V fun v V'=>v= .bool (bW g1 d)/\St V' K L:=by
 obtain⟨b4,U,W,X⟩:=h1;obtain⟨b5,av,ax,aE⟩:=h2;refine SC hG Tryz.func16 Z<|R5 2 Z<|kp aq Z (cG Z Z) (fun V b1 aq=>?_);refine kp aq Z (cG Z Z) (fun V b2 aq=>?_);refine Qz 6 Z<|SK aq 4 [0,1,0,0] Z Z<|bB Z (Tk Z Z Z) (fun _=>Z) (Nu hG aq b4 b5) (fun V aq=>?_);refine Y Z (dV Z) Z<|ky Z (D Z) (fun b=>?_) (fun b=>?_)
 ·refine Rl 36 Z ?_;exact aA Z Z ⟨cB (by have u:bW g1.init d.init=false:=(by simpa using b);rw[mb];simp only[u,Bool.and_true,Bool.true_and,Bool.and_false,Bool.false_and]),aq.pop.pop⟩
 refine SK aq 2 [1,1] Z Z<|Y Z (To U Z Z Z (e:=64) Z) Z<|SK aq 2 [1,0] Z Z<|Y Z (To av Z Z Z (e:=64) Z) Z<|SI 2 Z<|ky Z (D Z) (fun A=>?_) (fun A=>?_)
 ·refine Rl 27 Z ?_;exact aA Z Z ⟨cB (by have u:bW g1.init d.init=true:=(by simpa using b);have e1:=dE (bL A);rw[mb];simp only[u,e1,Bool.and_true,Bool.true_and,Bool.and_false,Bool.false_and]),aq.pop.pop⟩
 refine SK aq 2 [2,1] Z Z<|Y Z (To W Z Z Z (e:=57) Z) Z<|SK aq 2 [2,0] Z Z<|Y Z (To ax Z Z Z (e:=57) Z) Z<|SI 2 Z<|ky Z (D Z) (fun C=>?_) (fun C=>?_)
 ·refine Rl 18 Z ?_;exact aA Z Z ⟨cB (by have u:bW g1.init d.init=true:=(by simpa using b);have e2:=dE (bL C);rw[mb];simp only[u,e2,Bool.and_true,Bool.true_and,Bool.and_false,Bool.false_and]),aq.pop.pop⟩
 refine SK aq 2 [3,1] Z Z<|Y Z (To X Z Z Z (e:=57) Z) Z<|SK aq 2 [3,0] Z Z<|Y Z (To aE Z Z Z (e:=57) Z) Z<|R7 4 Z<|aD Z (fun aa=>?_) (fun aa=>?_)
 ·refine R6 7 Z ?_;exact aA Z Z ⟨cB (by have u:bW g1.init d.init=true:=(by simpa using b);have e3:=dE (bL aa);rw[mb];simp only[u,e3,Bool.and_true,Bool.true_and,Bool.and_false,Bool.false_and]),aq.pop.pop⟩
 refine Qy 9 Z ?_;obtain⟨LL1,aq,hLL1⟩:=aq.named;refine a6 ([4,5]++rg 41 19) (fun j t V=>∃(i:Nat),j+i=g1.threads.length/\(∀k,k<i->g1.threads[k]? =d.threads[k]?)/\t.get 5=some (.int .i64 (.ofNat i))/\St V K LL1) (g1.threads.length) ⟨0,Z,fun k hk=>absurd hk (nZ_ _),Z,aq⟩ ?_;clear aq;intro j4 t V an hI;obtain⟨i,cs,ab,b6,aq⟩:=hI;subst hLL1;obtain⟨oo,rfl⟩:=an.q1 b6 Z;refine Ro aq 6 [1,1] Z Z<|Y Z (To U Z Z Z (e:=64) Z) Z<|R7 3 Z<|aD Z (fun E=>?_) (fun E=>?_)
 ·refine PK 5 Z<|aU (l:=zp [0,1,2,3,4,5,6,7,8,9,10,11]) S S<|SN aq 3 [1,1] Z Z ?_;obtain⟨cv,F,a0⟩:=cL E;refine Th (e:=64) (m:=1) U F Z Z Z Z Z (fun cw ca a3 cb a4=>?_);have hr51':=a4;obtain⟨cx,rfl,a5⟩:=hr51';refine aj Z Z (Tq aq a3 Z Z) Z<|SN aq 3 [1,0] Z Z ?_;obtain⟨c0,I⟩:=bZ (show _<d.threads.length from by rw[<-cN (a7 A)];exact a0);refine Th (e:=64) (m:=1) av I Z Z Z Z Z (fun c3 cc a9 ce bb=>?_);have hr56':=bb;obtain⟨c4,rfl,bd⟩:=hr56';refine aj Z Z (Tq aq a9 Z Z) Z<|dZ Z Z (Tk Z Z Z) (fun _=>Z) (Lk hG aq a5 bd) (fun V aq=>?_);refine⟨aV,?_⟩;refine aj Z Z (dV Z) Z<|R9 2 Z<|aD Z (fun ai=>?_) (fun ai=>?_)
  ·refine SG 6 Z<|aK<|ay<|bq<|aK<|ay (?_);exact aA Z Z ⟨cB (by have u:bW g1.init d.init=true:=(by simpa using b);have e1:=dw F I (by simpa using ai);rw[mb];simp only[u,e1,Bool.and_true,Bool.true_and,Bool.and_false,Bool.false_and]),aq.pop.pop⟩
  refine aG<|aH<|SF 5 Z<|aL ⟨j4-1,by omega,oF,i+1,by omega,fo ab F I (by simpa using ai),cI<|aX (by have:=U.bK;omega),aq⟩
 refine Ri 3 Z<|aM<|Rg 7 Z ?_;obtain⟨LL2,aq,hLL2⟩:=aq.named;refine a6 ([4,6]++rg 60 19) (fun j t V=>∃(i2:Nat),j+i2=g1.from_.length/\(∀k,k<i2->g1.from_[k]? =d.from_[k]?)/\t.get 6=some (.int .i64 (.ofNat i2))/\St V K LL2) (g1.from_.length) ⟨0,Z,fun k hk=>absurd hk (nZ_ _),Z,aq⟩ ?_;clear aq;intro j9 t V an hI;obtain⟨i2,c5,al,b7,aq⟩:=hI;subst hLL2;obtain⟨oo,rfl⟩:=an.q1 b7 Z;refine Ro aq 6 [2,1] Z Z<|Y Z (To W Z Z Z (e:=57) Z) Z<|R7 3 Z<|aD Z (fun ac=>?_) (fun ac=>?_)
 ·refine PK 5 Z<|aU (l:=zp [0,1,2,3,4,5,6,7,8,9,10,11]) S S<|SN aq 3 [2,1] Z Z ?_;obtain⟨c7,M,be⟩:=cL ac;refine Th (e:=57) (m:=1) W M Z Z Z Z Z (fun c8 cg bf ch bi=>?_);have hr70':=bi;obtain⟨c9,rfl,bk⟩:=hr70';refine aj Z Z (Tq aq bf Z Z) Z<|SN aq 3 [2,0] Z Z ?_;obtain⟨dd,Q⟩:=bZ (show _<d.from_.length from by rw[<-cN (a7 C)];exact be);refine Th (e:=57) (m:=1) ax Q Z Z Z Z Z (fun df ci bl cj bm=>?_);have hr75':=bm;obtain⟨dk,rfl,bo⟩:=hr75';refine aj Z Z (Tq aq bl Z Z) Z<|dZ Z Z (Tk Z Z Z) (fun _=>Z) (Od hG aq bk bo) (fun V aq=>?_);refine⟨aV,?_⟩;refine aj Z Z (dV Z) Z<|R9 2 Z<|aD Z (fun am=>?_) (fun am=>?_)
  ·refine SG 6 Z<|aK<|ay<|bq<|aK<|ay (?_);exact aA Z Z ⟨cB (by have u:bW g1.init d.init=true:=(by simpa using b);have e1:=dh (cN<|a7 A) (bC E) ab;have e2:=dw M Q (by simpa using am);rw[mb];simp only[u,e1,e2,Bool.and_true,Bool.true_and,Bool.and_false,Bool.false_and]),aq.pop.pop⟩
  refine aG<|aH<|SF 5 Z<|aL ⟨j9-1,by omega,oF,i2+1,by omega,fo al M Q (by simpa using am),cI<|aX (by have:=W.bK;omega),aq⟩
 refine Ri 3 Z<|aM<|Rg 7 Z ?_;obtain⟨LL3,aq,hLL3⟩:=aq.named;refine a6 ([4,7]++rg 79 19) (fun j t V=>∃(i3:Nat),j+i3=g1.order.length/\(∀k,k<i3->g1.order[k]? =d.order[k]?)/\t.get 7=some (.int .i64 (.ofNat i3))/\St V K LL3) (g1.order.length) ⟨0,Z,fun k hk=>absurd hk (nZ_ _),Z,aq⟩ ?_;clear aq;intro b8 t V an hI;obtain⟨i3,ck,ad,b9,aq⟩:=hI;subst hLL3;obtain⟨oo,rfl⟩:=an.q1 b9 Z;refine Ro aq 6 [3,1] Z Z<|Y Z (To X Z Z Z (e:=57) Z) Z<|R7 3 Z<|aD Z (fun ao=>?_) (fun ao=>?_)
 ·refine PK 5 Z<|aU (l:=zp [0,1,2,3,4,5,6,7,8,9,10,11]) S S<|SN aq 3 [3,1] Z Z ?_;obtain⟨dl,R,br⟩:=cL ao;refine Th (e:=57) (m:=1) X R Z Z Z Z Z (fun dm cn bs cp bt=>?_);have hr89':=bt;obtain⟨dn,rfl,bv⟩:=hr89';refine aj Z Z (Tq aq bs Z Z) Z<|SN aq 3 [3,0] Z Z ?_;obtain⟨dr,T⟩:=bZ (show _<d.order.length from by rw[<-cN (a7 aa)];exact br);refine Th (e:=57) (m:=1) aE T Z Z Z Z Z (fun ds cq bw cr b0=>?_);have hr94':=b0;obtain⟨dx,rfl,b3⟩:=hr94';refine aj Z Z (Tq aq bw Z Z) Z<|dZ Z Z (Tk Z Z Z) (fun _=>Z) (Od hG aq bv b3) (fun V aq=>?_);refine⟨aV,?_⟩;refine aj Z Z (dV Z) Z<|R9 2 Z<|aD Z (fun ap=>?_) (fun ap=>?_)
  ·refine SG 6 Z<|aK<|ay<|bq<|aK<|ay (?_);exact aA Z Z ⟨cB (by have u:bW g1.init d.init=true:=(by simpa using b);have e1:=dh (cN<|a7 A) (bC E) ab;have e2:=dh (cN<|a7 C) (bC ac) al;have e3:=dw R T (by simpa using ap);rw[mb];simp only[u,e1,e2,e3,Bool.and_true,Bool.true_and,Bool.and_false,Bool.false_and]),aq.pop.pop⟩
  refine aG<|aH<|SF 5 Z<|aL ⟨b8-1,by omega,oF,i3+1,by omega,fo ad R T (by simpa using ap),cI<|aX (by have:=X.bK;omega),aq⟩
 refine Ri 3 Z<|aM<|SG 6 Z ?_;exact aA Z Z ⟨cB (by have u:bW g1.init d.init=true:=(by simpa using b);have e1:=dh (cN<|a7 A) (bC E) ab;have e2:=dh (cN<|a7 C) (bC ac) al;have e3:=dh (cN<|a7 aa) (bC ao) ad;rw[mb];simp only[u,e1,e2,e3,Bool.and_true,Bool.true_and,Bool.and_false,Bool.false_and]),aq.pop.pop⟩
theorem G3 {G:Cx} (d:Plain G) {K:KP} (e:cU) {V:N} {L:Own} (aq:St V K L):aW Tryz.prog G 108 [.agg<|ints e.ints] V fun v V'=>v= .bool (dR e)/\St V' K L:=by
 refine SC d Tryz.func108 Z<|R5 2 Z<|kp aq Z (cG Z Z) (fun V b1 aq=>?_);refine Rk 5 Z<|SK aq 3 [0,0] Z Z<|ky Z (D Z) (fun b=>?_) (fun b=>?_)
 ·refine R8 8 Z ?_;exact aA Z Z ⟨cB (by unfold dR;simp only[b,ct,cf]),aq.pop⟩
 refine Sa aq 8 [0,0] Z Z ?_;exact aA Z Z ⟨cB (by unfold dR;simp only[b,ct,cf]),aq.pop⟩
theorem sN {G:Cx} (d:Plain G) {K:KP} (e:cU) {V:N} {L:Own} (aq:St V K L):aW Tryz.prog G 109 [.agg<|ints e.ints] V fun v V'=>v= .bool (bH e)/\St V' K L:=by
 refine SC d Tryz.func109 Z<|R5 2 Z<|kp aq Z (cG Z Z) (fun V b1 aq=>?_);refine Rk 5 Z<|SK aq 3 [0,0] Z Z<|ky Z (D Z) (fun b=>?_) (fun b=>?_)
 ·refine R8 8 Z ?_;exact aA Z Z ⟨cB (by unfold bH;simp only[b,ct,cf]),aq.pop⟩
 refine Sa aq 8 [0,0] Z Z ?_;exact aA Z Z ⟨cB (by unfold bH;simp only[b,ct,cf]),aq.pop⟩
theorem GZ {G:Cx} (hG:Plain G) {K:KP} {g:XG} {a b c d:J} (h:dj K g a b c d) (th ix:Int) {V:N} {L:Own} (aq:St V K L):aW Tryz.prog G 110 [.agg [a,b,c,d],.agg [.int .i64 th,.int .i64 ix]] V fun v V'=>v= .tuple [.agg<|ints (vW<|ez g ⟨th,ix⟩).ints,.bool (ez g ⟨th,ix⟩).isSome]/\St V' K L:=by
 have h':=h;obtain⟨hi,R,hf,ho⟩:=h';refine SC hG Tryz.func110 Z<|R5 2 Z<|kp aq Z (cG Z Z) (fun V b1 aq=>?_);refine kp aq Z (cG Z Z) (fun V b2 aq=>?_);refine kp aq Z (Tp (cs:=[iZ,iZ,iZ,iZ,iZ])) (fun V b3 aq=>?_);refine Qz 6 Z<|SK aq 3 [0,1] Z Z<|ky Z (D Z) (fun h9=>?_) (fun h9=>?_)
 ·refine Rk 17 Z (Y Z (Tj (places:=[(0,1),(1,1),(2,1),(3,1),(4,1)]) (zero:=[iZ,iZ,iZ,iZ,iZ]) (cs:=[_,_,_,_,_]) Z) Z<|cF aq Z (Ts Z Z Z aq.g0 (m:=5) Z Z (cells':=[_,_,_,_,_]) Z) Z (fun V aq=>?_));refine Rl 5 Z ?_;exact fu Z Z aq.g0 (m:=5) S Z Z ⟨by rw[s9 h9];rfl,aq.pop.pop.pop⟩
 refine SK aq 4 [0,1,1,2] Z Z<|Y Z (To R Z Z Z (e:=64) Z) Z<|SI 2 Z<|ky Z (D Z) (fun A=>?_) (fun A=>?_)
 ·refine Rk 9 Z (Y Z (Tj (places:=[(0,1),(1,1),(2,1),(3,1),(4,1)]) (zero:=[iZ,iZ,iZ,iZ,iZ]) (cs:=[_,_,_,_,_]) Z) Z<|cF aq Z (Ts Z Z Z aq.g0 (m:=5) Z Z (cells':=[_,_,_,_,_]) Z) Z (fun V aq=>?_));refine Rl 5 Z ?_;exact fu Z Z aq.g0 (m:=5) S Z Z ⟨by rw[BP A];rfl,aq.pop.pop.pop⟩
 refine SK aq 4 [1,1] Z Z<|R7 2 Z<|aD Z (fun I=>?_) (fun I=>?_)
 ·refine R5 2 Z (Y Z (Tj (places:=[(0,1),(1,1),(2,1),(3,1),(4,1)]) (zero:=[iZ,iZ,iZ,iZ,iZ]) (cs:=[_,_,_,_,_]) Z) Z<|cF aq Z (Ts Z Z Z aq.g0 (m:=5) Z Z (cells':=[_,_,_,_,_]) Z) Z (fun V aq=>?_));refine Rl 5 Z ?_;exact fu Z Z aq.g0 (m:=5) S Z Z ⟨by rw[pQ I];rfl,aq.pop.pop.pop⟩
 obtain⟨tn,rfl⟩:=nv h9;obtain⟨ixn,rfl⟩:=nv I;refine aG<|Ro aq 6 [0,1] Z Z<|R7 2 Z<|aD Z (fun C=>?_) (fun C=>?_)
 ·obtain rfl:tn=0:=by rw[dv] at C;simpa using C
  refine Ro aq 7 [1,1,0,2] Z Z<|Y Z (To hi Z Z Z (e:=2) Z) Z<|R7 3 Z<|aD Z (fun M=>?_) (fun M=>?_)
  ·refine R5 2 Z (Y Z (Tj (places:=[(0,1),(1,1),(2,1),(3,1),(4,1)]) (zero:=[iZ,iZ,iZ,iZ,iZ]) (cs:=[_,_,_,_,_]) Z) Z<|cF aq Z (Ts Z Z Z aq.g0 (m:=5) Z Z (cells':=[_,_,_,_,_]) Z) Z (fun V aq=>?_));refine R8 4 Z<|ay<|ay (?_);exact fu Z Z aq.g0 (m:=5) S Z Z ⟨by rw[show ez g _=none from by show(g.init[ixn]?).map _=_;rw[gN_<|jg M];rfl];rfl,aq.pop.pop.pop⟩
  refine aG<|B<|H<|aU (l:=zp [0,1,2,3,4,5,6,7,8,9,10]) S S<|SN aq 6 [1,1,0,2,1,1] Z Z ?_;obtain⟨a1,E⟩:=bZ (jm M);refine Th (e:=2) (m:=1) hi E Z Z Z Z Z (fun a2 am T an U=>?_);obtain rfl:=U;refine aj Z Z (Tq aq T Z Z) Z (aj Z Z (Tj (places:=[(0,1),(1,1),(2,1),(3,1),(4,1)]) (zero:=[iZ,iZ,iZ,iZ,iZ]) (cs:=[_,_,_,_,_]) Z) Z<|tI aq Z Z (Ts Z Z Z aq.g0 (m:=5) Z Z (cells':=[_,_,_,_,_]) Z) Z (fun V aq=>?_));refine⟨aV,?_⟩;refine R9 3 Z<|R6 2 Z ?_;exact fu Z Z aq.g0 (m:=5) S Z Z ⟨by rw[show ez g _=some _ from by show(g.init[ixn]?).map _=_;rw[E];rfl];rfl,aq.pop.pop.pop⟩
 obtain⟨tm,rfl⟩:=GK C;refine aG<|B<|H<|H<|aU (l:=zp [0,1,2,3,4,5,6,7,8,9,10]) S S<|SN aq 7 [1,1,1,2,0,1] Z Z ?_;obtain⟨a3,u⟩:=bZ (show tm<g.threads.length from by have:=mV A;omega);refine Th (e:=64) (m:=1) R u Z Z Z Z (cI<|fP (by have:=mV A;have:=R.bK;omega)) (fun a4 ao W ap X=>?_);have hr49':=X;obtain⟨a5,rfl,aa⟩:=hr49';refine aj Z Z (Tq aq W Z Z) Z<|aj Z Z (To aa Z Z Z (e:=92) Z) Z<|R9 3 Z<|aD Z (fun Q=>?_) (fun Q=>?_)
 ·refine R5 2 Z (Y Z (Tj (places:=[(0,1),(1,1),(2,1),(3,1),(4,1)]) (zero:=[iZ,iZ,iZ,iZ,iZ]) (cs:=[_,_,_,_,_]) Z) Z<|cF aq Z (Ts Z Z Z aq.g0 (m:=5) Z Z (cells':=[_,_,_,_,_]) Z) Z (fun V aq=>?_));refine Rl 5 Z ?_;exact fu Z Z aq.g0 (m:=5) S Z Z ⟨by rw[show ez g _=none from by show(g.threads[tm]?).bind _=_;rw[u];exact gN_<|jg Q];rfl,aq.pop.pop.pop⟩
 refine aG<|B<|H<|aU (l:=zp [0,1,2,3,4,5,6,7,8,9,10,11,12]) S S<|SN aq 5 [1,2,0,1] Z Z<|Th (e:=64) (m:=1) R u Z Z Z Z (cI<|fP (by have:=mV A;have:=R.bK;omega)) (fun a9 av ab ax ac=>?_);have hr59':=ac;obtain⟨bb,rfl,ad⟩:=hr59';refine aj Z Z (Tq aq ab Z Z) Z<|SN aq 2 [1,1] Z Z ?_;obtain⟨bd,F⟩:=bZ (jm Q);refine Th (e:=92) (m:=5) ad F Z Z Z Z Z (fun be aE ai a0 al=>?_);obtain rfl:=al;refine aj Z Z (Tr aq ai Z Z) Z<|tI aq Z Z (Ts Z Z Z aq.g0 (m:=5) Z Z (cells':=[_,_,_,_,_]) Z) Z (fun V aq=>?_);refine⟨aV,?_⟩;refine R9 3 Z<|aF ?_;exact fu Z Z aq.g0 (m:=5) S Z Z ⟨by rw[show ez g _=some _ from by show(g.threads[tm]?).bind _=_;rw[u];exact F];rfl,aq.pop.pop.pop⟩
theorem Bd {G:Cx} (Q:Plain G) {K:KP} (e:cU) (n:Int) {V:N} {L:Own} (aq:St V K L):aW Tryz.prog G 65 [.agg<|ints e.ints,.int .i64 n] V fun v V'=>v= .bool (bQ e n)/\St V' K L:=by
 refine SC Q Tryz.func65 Z<|R5 2 Z<|kp aq Z (cG Z Z) (fun V b1 aq=>?_);refine Qz 6 Z<|SK aq 3 [0,0] Z Z<|ky Z (D Z) (fun I=>?_) (fun I=>?_)
 ·refine Rl 24 Z ?_;exact aA Z Z ⟨cB (by unfold bQ cC;simp only[I,ct,cf]),aq.pop⟩
 refine SK aq 4 [0,0] Z Z<|ky Z (D Z) (fun b=>?_) (fun b=>?_)
 ·refine Rl 19 Z ?_;exact aA Z Z ⟨cB (by unfold bQ cC;simp only[I,b,ct,cf]),aq.pop⟩
 refine SK aq 4 [2,0] Z Z<|ky Z (D Z) (fun m=>?_) (fun m=>?_)
 ·refine Rl 14 Z ?_;exact aA Z Z ⟨cB (by unfold bQ cC;simp only[I,b,m,ct,cf]),aq.pop⟩
 refine SK aq 4 [2,0] Z Z<|R7 2 Z<|aD Z (fun u=>?_) (fun u=>?_)
 ·refine R6 7 Z ?_;exact aA Z Z ⟨cB (by unfold bQ cC;simp only[I,b,m,u,ct,cf]),aq.pop⟩
 refine aG<|Rh 3 Z<|Y Z (Tn Z aq.g0 (n:=5) (vs:=[_,_,_,_,_]) Z) Z<|bB Z (Tk Z Z Z) (fun _=>Z) (G3 Q _ aq) (fun V aq=>?_);refine Y Z (dV Z) Z<|ky Z (D Z) (fun C=>?_) (fun C=>?_)
 ·refine SK aq 4 [3,0] Z Z<|ky Z (D Z) (fun M=>?_) (fun M=>?_)
  ·refine Rl 19 Z ?_;exact aA Z Z ⟨cB (by unfold bQ cC;simp only[I,b,m,u,C,M,ct,cf]),aq.pop⟩
  refine Y Z (Tn Z aq.g0 (n:=5) (vs:=[_,_,_,_,_]) Z) Z<|bB Z (Tk Z Z Z) (fun _=>Z) (sN Q _ aq) (fun V aq=>?_);refine Y Z (dV Z) Z<|ky Z (D Z) (fun A=>?_) (fun A=>?_)
  ·refine SK aq 5 [4,0] Z Z<|R7 2 Z<|aD Z (fun F=>?_) (fun F=>?_)
   ·refine R6 7 Z ?_;exact aA Z Z ⟨cB (by unfold bQ cC;simp only[I,b,m,u,C,M,A,F,ct,cf]),aq.pop⟩
   refine aG<|Ro aq 6 [0,0] Z Z<|R7 2 Z<|aD Z (fun d=>?_) (fun d=>?_)
   ·refine R5 2 Z<|Sa aq 7 [1,0] Z Z<|ay (?_);exact aA Z Z ⟨cB (by unfold bQ cC;simp only[I,b,m,u,C,M,A,F,d,ct,cf]),aq.pop⟩
   refine aG<|R5 2 Z<|SK aq 3 [1,0] Z Z<|ky Z (D Z) (fun E=>?_) (fun E=>?_)
   ·refine Sa aq 9 [1,0] Z Z ?_;exact aA Z Z ⟨cB (by unfold bQ cC;simp only[I,b,m,u,C,M,A,F,d,E,ct,cf]),aq.pop⟩
   refine R8 9 Z ?_;exact aA Z Z ⟨cB (by unfold bQ cC;simp only[I,b,m,u,C,M,A,F,d,E,ct,cf]),aq.pop⟩
  refine R7 8 Z<|aG<|Ro aq 6 [0,0] Z Z<|R7 2 Z<|aD Z (fun d=>?_) (fun d=>?_)
  ·refine R5 2 Z<|Sa aq 7 [1,0] Z Z<|ay (?_);exact aA Z Z ⟨cB (by unfold bQ cC;simp only[I,b,m,u,C,M,A,d,ct,cf]),aq.pop⟩
  refine aG<|R5 2 Z<|SK aq 3 [1,0] Z Z<|ky Z (D Z) (fun E=>?_) (fun E=>?_)
  ·refine Sa aq 9 [1,0] Z Z ?_;exact aA Z Z ⟨cB (by unfold bQ cC;simp only[I,b,m,u,C,M,A,d,E,ct,cf]),aq.pop⟩
  refine R8 9 Z ?_;exact aA Z Z ⟨cB (by unfold bQ cC;simp only[I,b,m,u,C,M,A,d,E,ct,cf]),aq.pop⟩
 refine SI 5 Z<|Y Z (Tn Z aq.g0 (n:=5) (vs:=[_,_,_,_,_]) Z) Z<|bB Z (Tk Z Z Z) (fun _=>Z) (sN Q _ aq) (fun V aq=>?_);refine Y Z (dV Z) Z<|ky Z (D Z) (fun A=>?_) (fun A=>?_)
 ·refine SK aq 5 [4,0] Z Z<|R7 2 Z<|aD Z (fun F=>?_) (fun F=>?_)
  ·refine R6 7 Z ?_;exact aA Z Z ⟨cB (by unfold bQ cC;simp only[I,b,m,u,C,A,F,ct,cf]),aq.pop⟩
  refine aG<|Ro aq 6 [0,0] Z Z<|R7 2 Z<|aD Z (fun d=>?_) (fun d=>?_)
  ·refine R5 2 Z<|Sa aq 7 [1,0] Z Z<|ay (?_);exact aA Z Z ⟨cB (by unfold bQ cC;simp only[I,b,m,u,C,A,F,d,ct,cf]),aq.pop⟩
  refine aG<|R5 2 Z<|SK aq 3 [1,0] Z Z<|ky Z (D Z) (fun E=>?_) (fun E=>?_)
  ·refine Sa aq 9 [1,0] Z Z ?_;exact aA Z Z ⟨cB (by unfold bQ cC;simp only[I,b,m,u,C,A,F,d,E,ct,cf]),aq.pop⟩
  refine R8 9 Z ?_;exact aA Z Z ⟨cB (by unfold bQ cC;simp only[I,b,m,u,C,A,F,d,E,ct,cf]),aq.pop⟩
 refine R7 8 Z<|aG<|Ro aq 6 [0,0] Z Z<|R7 2 Z<|aD Z (fun d=>?_) (fun d=>?_)
 ·refine R5 2 Z<|Sa aq 7 [1,0] Z Z<|ay (?_);exact aA Z Z ⟨cB (by unfold bQ cC;simp only[I,b,m,u,C,A,d,ct,cf]),aq.pop⟩
 refine aG<|R5 2 Z<|SK aq 3 [1,0] Z Z<|ky Z (D Z) (fun E=>?_) (fun E=>?_)
 ·refine Sa aq 9 [1,0] Z Z ?_;exact aA Z Z ⟨cB (by unfold bQ cC;simp only[I,b,m,u,C,A,d,E,ct,cf]),aq.pop⟩
 refine R8 9 Z ?_;exact aA Z Z ⟨cB (by unfold bQ cC;simp only[I,b,m,u,C,A,d,E,ct,cf]),aq.pop⟩
theorem Dl {G:Cx} (I:Plain G) {K:KP} {g:XG} {a b c d:J} (h:dj K g a b c d) (th ix fth fix_:Int) {V:N} {L:Own} (aq:St V K L):aW Tryz.prog G 66 [.agg [a,b,c,d],.agg [.int .i64 th,.int .i64 ix],.agg [.int .i64 fth,.int .i64 fix_]] V fun v V'=>v= .bool (cV g ⟨th,ix⟩ ⟨fth,fix_⟩)/\St V' K L:=by
 have h':=h;obtain⟨hi,ht,hf,ho⟩:=h';refine SC I Tryz.func66 Z<|R5 2 Z<|kp aq Z (cG Z Z) (fun V b1 aq=>?_);refine kp aq Z (cG Z Z) (fun V b2 aq=>?_);refine kp aq Z (cG Z Z) (fun V b3 aq=>?_);refine Rk 5 Z<|Y Z (Tn Z (aq.get 2 Z) (n:=4) (vs:=[_,_,_,_]) Z) Z<|Y Z (Tn Z aq.g1 (n:=2) (vs:=[_,_]) Z) Z<|bB Z (Tk Z Z Z) (fun _=>Z) (GZ I h _ _ aq) (fun V aq=>?_);refine SI 3 Z<|kp aq Z (Tp (cs:=[iZ,iZ,iZ,iZ,iZ])) (fun V b4 aq=>?_);refine cF aq Z (Ts Z Z Z aq.g0 (m:=5) Z Z (cells':=[_,_,_,_,_]) Z) Z (fun V aq=>?_);refine Qz 6 Z<|Y Z (Tn Z aq.g0 (n:=5) (vs:=[_,_,_,_,_]) Z) Z<|bB Z (Tk Z Z Z) (fun _=>Z) (G3 I _ aq) (fun V aq=>?_);refine Y Z (dV Z) Z<|R7 2 Z<|aD Z (fun u=>?_) (fun u=>?_)
 ·refine R5 2 Z (Y Z (Tn Z aq.g1 (n:=2) (vs:=[_,_]) Z) Z (Y Z (Tj (places:=[(0,1),(1,1)]) (zero:=[iZ,iZ]) (cs:=[_,_]) Z) Z<|Y Z (Lx (n:=2) (ca:=[_,_]) (cb:=[_,_]) S Z Z Z Z) Z<|Rl 5 Z ?_));exact aA Z Z ⟨cB (by unfold cV;simp only[u,ct,cf]),aq.pop.pop.pop.pop⟩
 refine aG<|R5 2 Z<|Y Z (Tn Z (aq.get 3 Z) (n:=4) (vs:=[_,_,_,_]) Z) Z<|Y Z (Tn Z aq.g1 (n:=2) (vs:=[_,_]) Z) Z<|bB Z (Tk Z Z Z) (fun _=>Z) (GZ I h _ _ aq) (fun V aq=>?_);refine SI 3 Z<|kp aq Z (Tp (cs:=[iZ,iZ,iZ,iZ,iZ])) (fun V b5 aq=>?_);refine cF aq Z (Ts Z Z Z aq.g0 (m:=5) Z Z (cells':=[_,_,_,_,_]) Z) Z (fun V aq=>?_);refine Rk 6 Z<|ky Z (D Z) (fun A=>?_) (fun A=>?_)
 ·refine Y Z (Tn Z (aq.get 2 Z) (n:=2) (vs:=[_,_]) Z) Z<|Y Z (Tn Z (aq.get 3 Z) (n:=2) (vs:=[_,_]) Z) Z<|Y Z (G6 (n:=2) (ca:=[_,_]) (cb:=[_,_]) S Z Z Z Z) Z<|vQ 1 Z<|ky Z (D Z) (fun C=>?_) (fun C=>?_)
  ·refine Y Z (Tn Z aq.g0 (n:=5) (vs:=[_,_,_,_,_]) Z) Z<|bB Z (Tk Z Z Z) (fun _=>Z) (sN I _ aq) (fun V aq=>?_);refine vQ 1 Z<|ky Z (D Z) (fun E=>?_) (fun E=>?_)
   ·refine SK aq 6 [1,0,1,1] Z Z<|ky Z (D Z) (fun F=>?_) (fun F=>?_)
    ·refine Sa aq 10 [4,0,3,1] Z Z ?_;exact aA Z Z ⟨cB (by unfold cV;simp only[u,A,C,E,F,ct,cf]),aq.pop.pop.pop.pop.pop⟩
    refine R8 10 Z ?_;exact aA Z Z ⟨cB (by unfold cV;simp only[u,A,C,E,F,ct,cf]),aq.pop.pop.pop.pop.pop⟩
   refine R8 17 Z ?_;exact aA Z Z ⟨cB (by unfold cV;simp only[u,A,C,E,ct,cf]),aq.pop.pop.pop.pop.pop⟩
  refine R8 21 Z ?_;exact aA Z Z ⟨cB (by unfold cV;simp only[u,A,C,ct,cf]),aq.pop.pop.pop.pop.pop⟩
 refine R8 26 Z ?_;exact aA Z Z ⟨cB (by unfold cV;simp only[u,A,ct,cf]),aq.pop.pop.pop.pop.pop⟩
theorem vk:DF Tryz.prog 148 59 3 2:=⟨by kernel_rfl,by kernel_rfl,by kernel_rfl,by kernel_rfl,fun k hk=>by
 match k,hk with
 | [a,b],_=>
  show jl Tryz.prog 59 (.agg<|ints [a,b])=true
  kernel_rfl⟩
theorem L7 {ls:List (List cQ)} {m1 m b:LM} {i d:Nat} {l:List cQ} {x:cQ} (h1:mr ls 0 m1=mr (ls.drop i) i b) (hx:ls[i]? =some l) (u:kL i l b=kL i (l.drop d) m) (hy:l[d]? =some x) (h:(fB m x.ints).isSome=false):mr ls 0 m1=none:=by
 rw[h1,cz hx];show(kL i l b).bind _=none;rw[u,cz hy];show(bif (fB m x.ints).isSome then _ else none).bind _=none;rw[h];rfl
theorem L8 {ls:List (List cQ)} {m1 m b:LM} {i d:Nat} {l:List cQ} {x:cQ} (h1:mr ls 0 m1=mr (ls.drop i) i b) (hx:ls[i]? =some l) (u:kL i l b=kL i (l.drop d) m) (hy:l[d]? =some x) (h:(fB m x.ints).isSome=true) (h':bM ((fB m x.ints).getD 0) (.ofNat i)=false):mr ls 0 m1=none:=by
 rw[h1,cz hx];show(kL i l b).bind _=none;rw[u,cz hy];show(bif (fB m x.ints).isSome then(bif bM ((fB m x.ints).getD 0) (.ofNat i) then _ else none) else none).bind _=none;rw[h,h'];rfl
theorem Be {G:Cx} (hG:Plain G) {K:KP} {g:XG} {a b c d:J} (h:dj K g a b c d) {V:N} {L:Own} (aq:St V K L):aW Tryz.prog G 67 [.agg [a,b,c,d]] V fun v V'=>v= .bool (eG g)/\St V' K L:=by
 have h':=h;obtain⟨hi,ht,hf,ho⟩:=h';refine SC hG Tryz.func67 Z<|R5 2 Z<|kp aq Z (cG Z Z) (fun V b1 aq=>?_);refine Rk 5 Z<|N3 aq Z zF (fun _=>Z) (fun V b2 aq=>?_);refine Qz 6 Z (SK aq 2 [1,1] Z Z (Y Z (To ht Z Z Z (e:=64) Z) Z (Rj 4 Z (a6 (rg 4 4++rg 18 23) (fun j t V=>∃(i:Nat) (es:List eB) (ck:Nat) (m:LM),j+i=g.threads.length/\eX 2 es m/\oa g.threads 0 []=oa (g.threads.drop i) i m/\t.get 18=some (.int .i64 (.ofNat i))/\St V K ((b2,.map es ck)::(b1,.row [a,b,c,d] 27 false)::L)) (g.threads.length) ⟨0,[],0,[],Z,.nil,Z,Z,aq⟩ ?_))));clear aq;intro j3 t V an hI;obtain⟨i,es,ck,m,ca,hm,ab,aE,aq⟩:=hI;obtain⟨oo,rfl⟩:=an.q1 aE Z;refine R4 6 Z<|aD Z (fun ac=>?_) (fun ac=>?_)
 ·refine PL 7 Z ?_;obtain⟨M,aa,bm⟩:=cL ac;refine Tg (e:=64) (m:=1) ht aa Z Z Z Z (fun cb bo a0 br a1=>?_);have hr21':=a1;obtain⟨cc,rfl,C⟩:=hr21';refine Y Z (Tq aq a0 Z Z) Z<|Rk 7 Z<|Y Z (To C Z Z Z (e:=92) Z) Z<|vQ 1 Z ?_;generalize ad:m=m0 at hm ab;clear ad;refine Rj 3 Z (a6 ([6,7]++rg 25 15) (fun j t V=>∃(u:Nat) (es:List eB) (ck:Nat) (m:LM),j+u=M.length/\eX 2 es m/\qu i M 0 m0=qu i (M.drop u) u m/\t.get 25=some (.int .i64 (.ofNat u))/\St V K ((b2,.map es ck)::(b1,.row [a,b,c,d] 27 false)::L)) (M.length) ⟨0,es,ck,m0,Z,hm,Z,Z,aq⟩ ?_);clear aq;intro j6 t V an hI;obtain⟨u,es,ck,m,ce,hm,ai,a2,aq⟩:=hI;obtain⟨oo,rfl⟩:=an.q1 a2 Z;refine R4 6 Z<|aD Z (fun al=>?_) (fun al=>?_)
  ·refine PL 7 Z ?_;obtain⟨am,Q,bs⟩:=cL al;refine Tg (e:=92) (m:=5) C Q Z Z Z Z (fun cg bt a3 bv a4=>?_);obtain rfl:=a4;refine Y Z (Tr aq a3 Z Z) Z<|kp aq Z (Tp (cs:=[iZ,iZ,iZ,iZ,iZ])) (fun V b3 aq=>?_);refine vQ 1 Z<|cF aq Z (Ts Z Z Z aq.g0 (m:=5) Z Z (cells':=[_,_,_,_,_]) Z) Z (fun V aq=>?_);refine Rk 4 Z<|Y Z (Tn Z aq.g0 (n:=5) (vs:=[_,_,_,_,_]) Z) Z<|bB Z (Tk Z Z Z) (fun _=>Z) (sN hG _ aq) (fun V aq=>?_);refine R7 2 Z<|aD Z (fun ao=>?_) (fun ao=>?_)
   ·refine ah Z (SI 4 Z (Y Z (Tj (places:=[(0,1),(1,1)]) (zero:=[iZ,iZ]) (cs:=[_,_]) Z) Z<|SK aq 2 [1,0] Z Z<|HO vk hm aq (k:=[_,_]) Z Z Z Z Z Z Z (fun V es ck aq hm=>?_)));replace hm:=(show eX 2 es (oS m [Int.ofNat (i+1),Int.ofNat u] am.loc) from by rw[<-aX (i:=i) (by have:=ht.bK;omega)];exact hm);refine af<|aH<|SF 4 Z ?_;have aq:=aq.pop;refine aL ⟨j6-1,by omega,oF,u+1,es,ck,_,by omega,hm,by rw[ai,cz Q];show qu i _ (u+1) (wy i m u am)=_;unfold wy;rw[ao];rfl,cI<|aX (by have:=C.bK;omega),aq⟩
   refine aG<|aH<|SF 4 Z ?_;have aq:=aq.pop;refine aL ⟨j6-1,by omega,oF,u+1,es,ck,_,by omega,hm,by rw[ai,cz Q];show qu i _ (u+1) (wy i m u am)=_;unfold wy;rw[ao];rfl,cI<|aX (by have:=C.bK;omega),aq⟩
  refine Ri 3 Z<|aM<|aH<|SF 4 Z<|aL ⟨j3-1,by omega,oF,i+1,es,ck,m,by omega,hm,by rw[ab,cz aa];show oa _ (i+1) (qu i M 0 m0)=_;rw[ai,ff<|bC al];rfl,cI<|aX (by have:=ht.bK;omega),aq⟩
 refine Ri 3 Z<|aM<|Ro aq 5 [3,1] Z Z<|Y Z (To ho Z Z Z (e:=57) Z) Z<|vQ 1 Z ?_;have U:oa g.threads 0 []=m:=by rw[ab,ff<|bC ac];rfl
 generalize bi:m=m1 at hm U;clear bi;refine Rj 3 Z (a6 ([2,8,9,11,12,13]++rg 44 28) (fun j t V=>∃(i:Nat) (es:List eB) (ck:Nat) (m:LM),j+i=g.order.length/\eX 2 es m/\mr g.order 0 m1=mr (g.order.drop i) i m/\t.get 44=some (.int .i64 (.ofNat i))/\St V K ((b2,.map es ck)::(b1,.row [a,b,c,d] 27 false)::L)) (g.order.length) ⟨0,es,ck,m1,Z,hm,Z,Z,aq⟩ ?_);clear aq;intro bk t V an hI;obtain⟨i,es,ck,m,bw,hm,A,a5,aq⟩:=hI;obtain⟨oo,rfl⟩:=an.q1 a5 Z;refine R4 6 Z<|aD Z (fun ap=>?_) (fun ap=>?_)
 ·refine PL 7 Z ?_;obtain⟨R,E,b0⟩:=cL ap;refine Tg (e:=57) (m:=1) ho E Z Z Z Z (fun ch b4 a9 b5 bb=>?_);have hr47':=bb;obtain⟨ci,rfl,T⟩:=hr47';refine Y Z (Tq aq a9 Z Z) Z<|Rk 7 Z<|Y Z (To T Z Z Z (e:=59) Z) Z<|vQ 1 Z ?_;generalize ad:m=m0 at hm A;clear ad;refine Rj 3 Z (a6 ([2,11,12,13]++rg 51 20) (fun j t V=>∃(u:Nat) (es:List eB) (ck:Nat) (m:LM),j+u=R.length/\eX 2 es m/\kL i R m0=kL i (R.drop u) m/\t.get 51=some (.int .i64 (.ofNat u))/\St V K ((b2,.map es ck)::(b1,.row [a,b,c,d] 27 false)::L)) (R.length) ⟨0,es,ck,m0,Z,hm,Z,Z,aq⟩ ?_);clear aq;intro bl t V an hI;obtain⟨u,es,ck,m,b6,hm,F,bd,aq⟩:=hI;obtain⟨oo,rfl⟩:=an.q1 bd Z;refine R4 6 Z<|aD Z (fun av=>?_) (fun av=>?_)
  ·refine PL 6 Z ?_;obtain⟨W,I,b7⟩:=cL av;refine Tg (e:=59) (m:=2) T I Z Z Z Z (fun cj b8 be b9 bf=>?_);obtain rfl:=bf;refine Y Z (Tr aq be Z Z) Z<|kp aq Z (Tp (cs:=[iZ,iZ])) (fun V b3 aq=>?_);refine cF aq Z (Ts Z Z Z aq.g0 (m:=2) Z Z (cells':=[_,_]) Z) Z (fun V aq=>?_);refine Qz 6 Z<|Y Z (Tn Z aq.g0 (n:=2) (vs:=[_,_]) Z) Z<|Y Z (LA vk hm aq.g1 (k:=[_,_]) Z Z Z) Z<|Rk 10 Z<|Y Z (dV Z) Z<|ky Z (D Z) (fun X=>?_) (fun X=>?_)
   ·refine R8 13 Z<|ay<|aK<|ay<|bq<|aK<|aK<|ay<|bq<|aK<|ay (?_);exact aA Z Z ⟨cB (by unfold eG;rw[show mr g.order 0 (oa g.threads 0 [])=none from by rw[U];exact L7 A E F I<|wP X]),aq.pop.pop.pop⟩
   refine R7 6 Z<|aD Z (fun ax=>?_) (fun ax=>?_)
   ·refine SG 6 Z<|ay<|aK<|ay<|bq<|aK<|aK<|ay<|bq<|aK<|ay (?_);exact aA Z Z ⟨cB (by unfold eG;rw[show mr g.order 0 (oa g.threads 0 [])=none from by rw[U];exact L8 A E F I (kG X)<|bL ax]),aq.pop.pop.pop⟩
   refine aG<|B<|ah Z<|vQ 1 Z<|Y Z (Tn Z aq.g0 (n:=2) (vs:=[_,_]) Z) Z<|HN vk hm aq (k:=[_,_]) Z Z Z Z Z Z Z Z Z (fun V es aq hm=>?_);refine af<|aH<|SF 4 Z ?_;have aq:=aq.pop;refine aL ⟨bl-1,by omega,oF,u+1,es,ck,_,by omega,hm,by rw[F,cz I];show(bif (fB m W.ints).isSome then _ else none)=_;rw[show(fB m W.ints).isSome=true from kG X];show(bif bM ((fB m W.ints).getD 0) (Int.ofNat i) then _ else none)=_;rw[show bM ((fB m W.ints).getD 0) (Int.ofNat i)=true from a7 ax];rfl,cI<|aX (by have:=T.bK;omega),aq⟩
  refine Ri 3 Z<|aM<|aH<|SF 4 Z<|aL ⟨bk-1,by omega,oF,i+1,es,ck,m,by omega,hm,by rw[A,cz E];show(kL i R m0).bind _=_;rw[F,ff<|bC av];rfl,cI<|aX (by have:=ho.bK;omega),aq⟩
 refine Ri 3 Z<|aM<|R5 3 Z<|Y Z (Ly vk hm aq.g0 Z Z Z Z) Z<|R8 5 Z ?_;exact aA Z Z ⟨cB (by unfold eG;rw[show mr g.order 0 (oa g.threads 0 [])=some m from by rw[U];exact by rw[A,ff<|bC ap];rfl]),aq.pop.pop⟩
theorem Ft {G:Cx} (b:Plain G) {K:KP} {l:List cU} {v:J} (h:bG K 5 nX l v) {V:N} {L:Own} (aq:St V K L):aW Tryz.prog G 107 [v] V fun v V'=>v= .bool (dy 14 (.ofNat l.length))/\St V' K L:=by
 refine SC b Tryz.func107 Z<|R5 8 Z<|Y Z (To h Z Z Z (e:=92) Z) Z<|R8 5 Z ?_;exact aA Z Z ⟨Z,aq⟩
theorem A0 {G:Cx} (Q:Plain G) {K:KP} {l:List (List cU)} {v:J} {p:List cU->Bool} (h:bG K 1 (RL K 5 nX) l v) {V:N} {L:Own} (aq:St V K L)
  (A:∀x u V L,St V K L->RL K 5 nX x [u]->aW Tryz.prog G 107 [u] V fun v V'=>v= .bool (p x)/\St V' K L):aW Tryz.prog G 142 [v,.func 107 [] []] V fun v V'=>v= .int .i64 (fx p l 0)/\St V' K L:=by
 refine SC Q Tryz.func142 Z<|Rh 9 Z<|Y Z (To h Z Z Z (e:=64) Z) Z<|Rj 4 Z ?_;obtain⟨LL1,aq,hLL1⟩:=aq.named;refine a6 ([4,5]++rg 8 11) (fun j t V=>∃(i:Nat),j+i=l.length/\fx p l 0=fx p (l.drop i) i/\t.get 8=some (.int .i64 (.ofNat i))/\St V K LL1) (l.length) ⟨0,Z,Z,Z,aq⟩ ?_;clear aq;intro R t V an T;obtain⟨i,hj,he,I,aq⟩:=T;subst hLL1;obtain⟨oo,rfl⟩:=an.q1 I Z;refine R4 6 Z<|aD Z (fun M=>?_) (fun M=>?_)
 ·refine PL 15 Z ?_;obtain⟨C,b,aa⟩:=cL M;refine Tg (e:=64) (m:=1) h b Z Z Z Z (fun ai ab F ac d=>?_);have hr14':=d;obtain⟨al,rfl,ad⟩:=hr14';refine Y Z (Tq aq F Z Z) Z<|bB Z (Tk Z Z Z) (fun _=>Z) (A C _ _ _ aq d) (fun V aq=>?_);refine R7 2 Z<|aD Z (fun E=>?_) (fun E=>?_)
  ·refine SG 7 Z<|aK<|ay<|bq<|aK<|ay (?_);exact aA Z Z ⟨cJ (by symm;rw[he,cz b];show(bif p C then _ else _)=_;rw[E];rfl),aq⟩
  refine aG<|aH<|SF 4 Z<|aL ⟨R-1,by omega,oF,i+1,by omega,by rw[he,cz b];show(bif p C then _ else _)=_;rw[E];rfl,cI<|aX (by have:=h.bK;omega),aq⟩
 refine Ri 3 Z<|aM<|SG 6 Z ?_;exact aA Z Z ⟨cJ (by symm;rw[he,ff<|bC M];rfl),aq⟩
theorem uU {G:Cx} (b:Plain G) {K:KP} {l:List (List cU)} {v:J} (h:bG K 1 (RL K 5 nX) l v) {V:N} {L:Own} (aq:St V K L):aW Tryz.prog G 106 [v,.func 107 [] []] V fun v V'=>v= .bool (l.any fun x=>dy 14 (.ofNat x.length))/\St V' K L:=by
 refine SC b Tryz.func106 Z (R5 9 Z (bB Z (Tk Z Z Z) (fun _=>Z) (A0 b h aq (p:=fun x=>dy 14 (.ofNat x.length)) fun x u V L aq d=>by obtain⟨w,hw,hk⟩:=d;cases hw;exact Ft b hk aq) (fun V aq=>?_)));refine R8 5 Z ?_;exact aA Z Z ⟨cB<|wx _ _,aq⟩
theorem It {G:Cx} (A:Plain G) {K:KP} {g:XG} {a b c d:J} (h:dj K g a b c d) {V:N} {L:Own} (aq:St V K L):aW Tryz.prog G 64 [.agg [a,b,c,d]] V fun v V'=>v= .bool (eE g)/\St V' K L:=by
 have h':=h;obtain⟨hi,C,hf,ho⟩:=h';refine SC A Tryz.func64 Z<|R5 2 Z<|kp aq Z (cG Z Z) (fun V b1 aq=>?_);refine Rk 5 Z<|SK aq 2 [1,0] Z Z<|Y Z (To C Z Z Z (e:=64) Z) Z<|vQ 1 Z<|ky Z (D Z) (fun u=>?_) (fun u=>?_)
 ·refine R8 14 Z ?_;exact aA Z Z ⟨cB (by unfold eE;simp only[u,ct,cf]),aq.pop⟩
 refine SK aq 2 [0,0] Z Z<|Y Z (To hi Z Z Z (e:=2) Z) Z<|SI 2 Z<|ky Z (D Z) (fun m=>?_) (fun m=>?_)
 ·refine R8 8 Z ?_;exact aA Z Z ⟨cB (by unfold eE;simp only[u,m,ct,cf]),aq.pop⟩
 refine SK aq 2 [1,0] Z Z<|bB Z (Tk Z Z Z) (fun _=>Z) (uU A C aq) (fun V aq=>?_);refine R8 5 Z ?_;exact aA Z Z ⟨cB (by unfold eE;simp only[u,m,ct,cf]),aq.pop⟩
theorem GW {G:Cx} (hG:Plain G) {K:KP} {g:XG} {a b c d:J} (h:dj K g a b c d) {V:N} {L:Own} (aq:St V K L):aW Tryz.prog G 36 [.agg [a,b,c,d]] V fun v V'=>v= .int .i64 (bY g)/\St V' K L:=by
 have h':=h;obtain⟨hi,ht,hf,ho⟩:=h';refine SC hG Tryz.func36 Z<|R5 2 Z<|kp aq Z (cG Z Z) (fun V b1 aq=>?_);refine Qz 6 Z<|Y Z (Tn Z aq.g0 (n:=4) (vs:=[_,_,_,_]) Z) Z<|bB Z (Tk Z Z Z) (fun _=>Z) (It hG h aq) (fun V aq=>?_);refine R7 2 Z<|aD Z (fun h8=>?_) (fun h8=>?_)
 ·refine R6 7 Z ?_;exact aA Z Z ⟨cJ (by symm;unfold bY;rw[h8];rfl),aq.pop⟩
 refine aG<|Ro aq 5 [2,0] Z Z<|Y Z (To hf Z Z Z (e:=57) Z) Z<|SK aq 2 [1,0] Z Z<|Y Z (To ht Z Z Z (e:=64) Z) Z<|vQ 1 Z<|ky Z (D Z) (fun E=>?_) (fun E=>?_)
 ·refine Rl 18 Z ?_;exact aA Z Z ⟨cJ (by symm;unfold bY;rw[h8,bL E];rfl),aq.pop⟩
 refine SK aq 2 [3,0] Z Z<|Y Z (To ho Z Z Z (e:=57) Z) Z<|SK aq 2 [0,0] Z Z<|Y Z (To hi Z Z Z (e:=2) Z) Z<|R7 4 Z<|aD Z (fun M=>?_) (fun M=>?_)
 ·refine R6 7 Z ?_;exact aA Z Z ⟨cJ (by symm;unfold bY;rw[h8,a7 E,bL M];rfl),aq.pop⟩
 refine aG<|Ro aq 5 [1,0] Z Z<|Y Z (To ht Z Z Z (e:=64) Z) Z<|Rj 4 Z ?_;obtain⟨LL1,aq,hLL1⟩:=aq.named;refine a6 (rg 2 5++rg 28 46) (fun j t V=>∃(i:Nat),j+i=g.threads.length/\kI g g.threads g.from_ 0=kI g (g.threads.drop i) (g.from_.drop i) i/\t.get 28=some (.int .i64 (.ofNat i))/\St V K LL1) (g.threads.length) ⟨0,Z,Z,Z,aq⟩ ?_;clear aq;intro j6 t V an hI;obtain⟨i,b4,aa,ap,aq⟩:=hI;subst hLL1;obtain⟨oo,rfl⟩:=an.q1 ap Z;refine R4 6 Z<|aD Z (fun ac=>?_) (fun ac=>?_)
 ·refine PL 7 Z ?_;obtain⟨u,F,av⟩:=cL ac;refine Tg (e:=64) (m:=1) ht F Z Z Z Z (fun b5 bk ax bl aE=>?_);have hr31':=aE;obtain⟨b6,rfl,U⟩:=hr31';refine Y Z (Tq aq ax Z Z) Z<|Qz 7 Z<|SK aq 3 [2,0] Z Z ?_;obtain⟨A,C⟩:=bZ (show i<g.from_.length from by rw[cN<|a7 E];exact av);refine Tg (e:=57) (m:=1) hf C Z Z Z Z (fun b7 bm a0 bo a1=>?_);have hr36':=a1;obtain⟨b8,rfl,a2⟩:=hr36';refine Y Z (Tq aq a0 Z Z) Z<|Y Z (To a2 Z Z Z (e:=59) Z) Z<|vQ 1 Z<|Y Z (To U Z Z Z (e:=92) Z) Z<|R7 3 Z<|aD Z (fun Q=>?_) (fun Q=>?_)
  ·refine SG 6 Z<|ay<|aK<|ay<|bq<|aK<|ay (?_);exact aA Z Z ⟨cJ (by symm;unfold bY;rw[h8,a7 E,a7 M,show kI g g.threads g.from_ 0=false from by rw[aa,cz F,cz C];show(bif bM _ _ then _ else false)=false;rw[bL Q];rfl];rfl),aq.pop⟩
  refine aG<|R5 3 Z<|Y Z (To U Z Z Z (e:=92) Z) Z<|Rj 4 Z ?_;obtain⟨LL2,aq,hLL2⟩:=aq.named;refine a6 ([2,5,6]++rg 44 29) (fun j t V=>∃(R:Nat),j+R=u.length/\pf g i u A 0=pf g i (u.drop R) (A.drop R) R/\t.get 44=some (.int .i64 (.ofNat R))/\St V K LL2) (u.length) ⟨0,Z,Z,Z,aq⟩ ?_;clear aq;intro bi t V an hI;obtain⟨R,br,W,a3,aq⟩:=hI;subst hLL2;obtain⟨oo,rfl⟩:=an.q1 a3 Z;refine R4 6 Z<|aD Z (fun al=>?_) (fun al=>?_)
  ·refine PL 7 Z ?_;obtain⟨ab,X,ai⟩:=cL al;refine Tg (e:=92) (m:=5) U X Z Z Z Z (fun b9 bs a4 bt a5=>?_);obtain rfl:=a5;refine Y Z (Tr aq a4 Z Z) Z<|kp aq Z (Tp (cs:=[iZ,iZ,iZ,iZ,iZ])) (fun V b2 aq=>?_);refine vQ 1 Z<|cF aq Z (Ts Z Z Z aq.g0 (m:=5) Z Z (cells':=[_,_,_,_,_]) Z) Z (fun V aq=>?_);refine R7 2 Z<|H<|aU (l:=zp [0,1,2,3,4,5,6,7,8,9,10,11,12,13,14,15,16,17,18,19,20,21,22]) S S<|aj Z Z (Tn Z aq.g0 (n:=5) (vs:=[_,_,_,_,_]) Z) Z<|SN aq 2 [0,1] Z Z<|aj Z Z (To hi Z Z Z (e:=2) Z) Z<|dZ Z Z (Tk Z Z Z) (fun _=>Z) (Bd hG _ _ aq) (fun V aq=>?_);refine⟨aV,?_⟩;refine aj Z Z (dV Z) Z<|jo Z Z (D Z) (fun _=>Z) (fun ad=>?_) (fun ad=>?_)
   ·refine R9 24 Z<|aF<|aK<|ay<|bq<|aK<|aK<|ay<|bq<|aK<|ay (?_);exact aA Z Z ⟨cJ (by symm;unfold bY;rw[h8,a7 E,a7 M,show kI g g.threads g.from_ 0=false from by rw[aa,cz F,cz C];show(bif bM _ _ then(bif pf g i u A 0 then _ else false) else false)=false;rw[a7 Q,show pf g i u A 0=false from by rw[W];obtain⟨T,I⟩:=bZ (show R<A.length from by rw[cN<|a7 Q];exact ai);rw[cz X,cz I];show(bif xO g i R ab T then _ else false)=false;rw[show xO g i R ab T=false from by unfold xO;rw[wP ad];rfl];rfl];rfl];rfl),aq.pop.pop⟩
   refine aj Z Z (Tn Z aq.g1 (n:=4) (vs:=[_,_,_,_]) Z) Z (SJ 3 Z (aj Z Z (Tj (places:=[(0,1),(1,1)]) (zero:=[iZ,iZ]) (cs:=[_,_]) Z) Z<|SN aq 3 [2,1] Z Z<|Th (e:=57) (m:=1) hf C Z Z Z Z Z (fun ca bv a9 bw bb=>?_)));have hr64':=bb;obtain⟨cb,rfl,bd⟩:=hr64';refine aj Z Z (Tq aq a9 Z Z) Z<|wQ 1 Z ?_;obtain⟨T,I⟩:=bZ (show R<A.length from by rw[cN<|a7 Q];exact ai);refine Th (e:=59) (m:=2) bd I Z Z Z Z Z (fun cc b0 be b3 bf=>?_);obtain rfl:=bf;refine aj Z Z (Tr aq be Z Z) Z<|dZ Z Z (Tk Z Z Z) (fun _=>Z) (Dl hG h _ _ _ _ aq) (fun V aq=>?_);refine⟨aV,?_⟩;refine aj Z Z (dV Z) Z<|R9 3 Z<|aD Z (fun am=>?_) (fun am=>?_)
   ·refine SG 6 Z<|aK<|ay<|bq<|aK<|aK<|ay<|bq<|aK<|ay (?_);exact aA Z Z ⟨cJ (by symm;unfold bY;rw[h8,a7 E,a7 M,show kI g g.threads g.from_ 0=false from by rw[aa,cz F,cz C];show(bif bM _ _ then(bif pf g i u A 0 then _ else false) else false)=false;rw[a7 Q,show pf g i u A 0=false from by rw[W];rw[cz X,cz I];show(bif xO g i R ab T then _ else false)=false;rw[show xO g i R ab T=false from by unfold xO;rw[kG ad,<-aX (i:=i) (by have:=ht.bK;omega)];exact wP am];rfl];rfl];rfl),aq.pop.pop⟩
   refine aG<|aH<|SF 4 Z ?_;have aq:=aq.pop;refine aL ⟨bi-1,by omega,oF,R+1,by omega,by rw[W,cz X,cz I];show(bif xO g i R ab T then _ else false)=_;rw[show xO g i R ab T=true from by unfold xO;rw[kG ad,<-aX (i:=i) (by have:=ht.bK;omega)];exact kG am];rfl,cI<|aX (by have:=U.bK;omega),aq⟩
  refine Ri 3 Z<|aM<|aH<|SF 4 Z<|aL ⟨j6-1,by omega,oF,i+1,by omega,by rw[aa,cz F,cz C];show(bif bM _ _ then(bif pf g i u A 0 then _ else false) else false)=_;rw[a7 Q,show pf g i u A 0=true from by rw[W,ff<|bC al];rfl];rfl,cI<|aX (by have:=ht.bK;omega),aq⟩
 refine Ri 3 Z<|aM<|Rh 3 Z<|Y Z (Tn Z aq.g0 (n:=4) (vs:=[_,_,_,_]) Z) Z<|bB Z (Tk Z Z Z) (fun _=>Z) (Be hG h aq) (fun V aq=>?_);refine Y Z (dV Z) Z<|R7 2 Z<|aD Z (fun ao=>?_) (fun ao=>?_)
 ·refine R6 7 Z ?_;exact aA Z Z ⟨cJ (by symm;unfold bY;rw[h8,a7 E,a7 M,show kI g g.threads g.from_ 0=true from by rw[aa,ff<|bC ac];rfl,wP ao];rfl),aq.pop⟩
 refine R6 8 Z ?_;exact aA Z Z ⟨cJ (by symm;unfold bY;rw[h8,a7 E,a7 M,show kI g g.threads g.from_ 0=true from by rw[aa,ff<|bC ac];rfl,kG ao];rfl),aq.pop⟩
theorem RL.mono {α:Type} {K K':KP} (hk:KP.le K K') {m:Nat} {R:α->List J->Prop} {l:List α} {vs:List J} (h:RL K m R l vs):RL K' m R l vs:=let ⟨v,h1,b⟩:=h;⟨v,h1,b.mono hk fun _ _ h=>h⟩
theorem dj.mono {K K':KP} (hk:KP.le K K') {g:XG} {a b c d:J} (h:dj K g a b c d):dj K' g a b c d:=
 ⟨h.init.mono hk fun _ _ h=>h,h.threads.mono hk fun _ _ h=>h.mono hk,h.from_.mono hk fun _ _ h=>h.mono hk,h.order.mono hk fun _ _ h=>h.mono hk⟩
theorem uL {G:Cx} (b:Plain G) {K:KP} (x:Int) {V:N} {L:Own} (aq:St V K L):aW Tryz.prog G 143 [.int .i64 x] V fun v V'=>v= .bool false/\St V' K L:=by
 refine SC b Tryz.func143 Z<|SG 14 Z ?_;exact aA Z Z ⟨cB<|N2 x,aq⟩
theorem zr {G:Cx} (m:Plain G) {K:KP} (x y:Int) {V:N} {L:Own} (aq:St V K L):aW Tryz.prog G 114 [.int .i64 x,.int .i64 y] V fun v V'=>v= .int .i64 (eK x y)/\St V' K L:=by
 refine SC m Tryz.func114 Z<|R5 8 Z<|bB Z (Tk Z Z Z) (fun _=>Z) (uL m _ aq) (fun V aq=>?_);refine Rk 6 Z<|bB Z (Tk Z Z Z) (fun _=>Z) (uL m _ aq) (fun V aq=>?_);refine Qz 27 Z<|R7 2 Z<|aD Z (fun b=>?_) (fun b=>?_)
 ·refine R6 7 Z ?_;exact aA Z Z ⟨cJ (by unfold eK;rw[b];rfl),aq⟩
 refine aG<|R4 8 Z<|aD Z (fun d=>?_) (fun d=>?_)
 ·refine R6 7 Z ?_;exact aA Z Z ⟨cJ (by unfold eK;rw[b,d];rfl),aq⟩
 refine R6 8 Z ?_;exact aA Z Z ⟨cJ (by unfold eK;rw[b,d];rfl),aq⟩
theorem Iq {G:Cx} (m:Plain G) {K:KP} {x y:Int} {p q:J} (b:dz K p [.int .i64 x]) (d:dz K q [.int .i64 y]) {V:N} {L:Own} (aq:St V K L):aW Tryz.prog G 113 [p,q] V fun v V'=>v= .int .i64 (eK x y)/\St V' K L:=by
 refine SC m Tryz.func113 Z<|R5 7 Z<|Y Z (Tq aq b Z Z) Z<|Y Z (Tq aq d Z Z) Z<|bB Z (Tk Z Z Z) (fun _=>Z) (zr m _ _ aq) (fun V aq=>?_);refine R8 4 Z ?_;exact aA Z Z ⟨Z,aq⟩
theorem qP {G:Cx} (m:Plain G) {K:KP} {x y:Int} {b d e1 e2:Nat} (h1:K b (.row [.int .i64 x] e1 false)) (u:K d (.row [.int .i64 y] e2 false)):uQ Tryz.prog G K (eK x y) [.func 113 [] [.ptr b 0,.ptr d 0]]:=⟨113,_,Z,by kernel_rfl,fun V L aq=>Iq m (fO h1) (fO u) aq⟩
theorem iv {G:Cx} (m:Plain G) {K:KP} (x y:Int) {V:N} {L:Own} (aq:St V K L):aW Tryz.prog G 78 [.int .i64 x,.int .i64 y] V fun v V'=>∃b d,v= .func 113 [] [.ptr b 0,.ptr d 0]/\St V' K ((d,.row [.int .i64 y] 3 false)::(b,.row [.int .i64 x] 3 false)::L):=by
 refine SC m Tryz.func78 Z<|R5 2 Z<|kp aq Z (cG Z Z) (fun V b aq=>?_);refine kp aq Z (cG Z Z) (fun V d aq=>?_);refine R8 10 Z ?_;exact aA Z Z ⟨_,_,Z,aq⟩
theorem qV {G:Cx} (b:Plain G) {K:KP} (x:Int) {V:N} {L:Own} (aq:St V K L):aW Tryz.prog G 145 [.int .i64 x] V fun v V'=>v= .bool false/\St V' K L:=by
 refine SC b Tryz.func145 Z<|SG 14 Z ?_;exact aA Z Z ⟨cB<|N2 x,aq⟩
theorem uJ {G:Cx} (m:Plain G) {K:KP} (x y:Int) {V:N} {L:Own} (aq:St V K L):aW Tryz.prog G 120 [.int .i64 x,.int .i64 y] V fun v V'=>v= .int .i64 (eK x y)/\St V' K L:=by
 refine SC m Tryz.func120 Z<|R5 8 Z<|bB Z (Tk Z Z Z) (fun _=>Z) (qV m _ aq) (fun V aq=>?_);refine Rk 6 Z<|bB Z (Tk Z Z Z) (fun _=>Z) (qV m _ aq) (fun V aq=>?_);refine Qz 27 Z<|R7 2 Z<|aD Z (fun b=>?_) (fun b=>?_)
 ·refine R6 7 Z ?_;exact aA Z Z ⟨cJ (by unfold eK;rw[b];rfl),aq⟩
 refine aG<|R4 8 Z<|aD Z (fun d=>?_) (fun d=>?_)
 ·refine R6 7 Z ?_;exact aA Z Z ⟨cJ (by unfold eK;rw[b,d];rfl),aq⟩
 refine R6 8 Z ?_;exact aA Z Z ⟨cJ (by unfold eK;rw[b,d];rfl),aq⟩
theorem Dk {G:Cx} (m:Plain G) {K:KP} {x y:Int} {p q:J} (b:dz K p [.int .i64 x]) (d:dz K q [.int .i64 y]) {V:N} {L:Own} (aq:St V K L):aW Tryz.prog G 159 [p,q] V fun v V'=>v= .int .i64 (eK x y)/\St V' K L:=by
 refine SC m Tryz.func159 Z<|R5 7 Z<|Y Z (Tq aq b Z Z) Z<|Y Z (Tq aq d Z Z) Z<|bB Z (Tk Z Z Z) (fun _=>Z) (uJ m _ _ aq) (fun V aq=>?_);refine R8 4 Z ?_;exact aA Z Z ⟨Z,aq⟩
theorem KG {G:Cx} (m:Plain G) {K:KP} {x y:Int} {b d e1 e2:Nat} (h1:K b (.row [.int .i64 x] e1 false)) (u:K d (.row [.int .i64 y] e2 false)):uQ Tryz.prog G K (eK x y) [.func 159 [] [.ptr b 0,.ptr d 0]]:=⟨159,_,Z,by kernel_rfl,fun V L aq=>Dk m (fO h1) (fO u) aq⟩
theorem xJ {G:Cx} (m:Plain G) {K:KP} (x y:Int) {V:N} {L:Own} (aq:St V K L):aW Tryz.prog G 144 [.int .i64 x,.int .i64 y] V fun v V'=>∃b d,v= .func 159 [] [.ptr b 0,.ptr d 0]/\St V' K ((d,.row [.int .i64 y] 2 false)::(b,.row [.int .i64 x] 2 false)::L):=by
 refine SC m Tryz.func144 Z<|R5 2 Z<|kp aq Z (cG Z Z) (fun V b aq=>?_);refine kp aq Z (cG Z Z) (fun V d aq=>?_);refine R8 10 Z ?_;exact aA Z Z ⟨_,_,Z,aq⟩
theorem qm {G:Cx} (R:Plain G) {K:KP} {l:List Int} {v:J} {V:N} {L:Own} (aq:St V K L) (h:bG K 1 (uQ Tryz.prog G K) l v):aW Tryz.prog G 77 [v] V fun v V'=>v= .int .i64 (Bj l)/\St V' K L:=by
 refine SC R Tryz.func77 Z<|Rh 9 Z<|Y Z (To h Z Z Z (e:=115) Z) Z<|Rj 4 Z ?_;obtain⟨LL1,aq,hLL1⟩:=aq.named;refine a6 ([2,4,5]++rg 8 10) (fun j t V=>∃(i:Nat),j+i=l.length/\Bj l=Bj (l.drop i)/\t.get 8=some (.int .i64 (.ofNat i))/\St V K LL1) (l.length) ⟨0,Z,Z,Z,aq⟩ ?_;clear aq;intro T t V an U;obtain⟨i,ai,u,M,aq⟩:=U;subst hLL1;obtain⟨oo,rfl⟩:=an.q1 M Z;refine R4 6 Z<|aD Z (fun Q=>?_) (fun Q=>?_)
 ·refine PL 6 Z ?_;obtain⟨E,b,aa⟩:=cL Q;refine Tg (e:=115) (m:=1) h b Z Z Z Z (fun al ab F ac I=>?_);obtain⟨f10,ad,rfl,A,d⟩:=I;refine Y Z (Tq aq F Z Z) Z<|Rk 6 Z<|bB Z (aT Z Z Z A) (fun _=>Z) (d _ _ aq) (fun V aq=>?_);refine R7 9 Z<|aD Z (fun C=>?_) (fun C=>?_)
  ·refine SG 7 Z<|aK<|ay<|bq<|aK<|ay (?_);exact aA Z Z ⟨cJ (by symm;rw[u,cz b];show(bif bM E 0 then _ else _)=_;rw[bL C];rfl),aq⟩
  refine aG<|aH<|SF 4 Z<|aL ⟨T-1,by omega,oF,i+1,by omega,by rw[u,cz b];show(bif bM E 0 then _ else _)=_;rw[a7 C];rfl,cI<|aX (by have:=h.bK;omega),aq⟩
 refine Ri 3 Z<|aM<|SG 6 Z ?_;exact aA Z Z ⟨cJ (by symm;rw[u,ff<|bC Q];rfl),aq⟩
theorem xI {G:Cx} (b:Plain G) {K:KP} (x y:cU) {V:N} {L:Own} (aq:St V K L):aW Tryz.prog G 116 [.agg [.int .i64 x.kind,.int .i64 x.loc,.int .i64 x.order,.int .i64 x.read,.int .i64 x.write],.agg [.int .i64 y.kind,.int .i64 y.loc,.int .i64 y.order,.int .i64 y.read,.int .i64 y.write]] V fun v V'=>v= .int .i64 (nO x y)/\St V' K L:=by
 refine SC b Tryz.func116 Z<|R5 2 Z<|kp aq Z (cG Z Z) (fun V b1 aq=>?_);refine kp aq Z (cG Z Z) (fun V b2 aq=>?_);refine R7 3 Z (H (aU (l:=[(0,[]),(1,[]),(2,[]),(3,[]),(5,[]),(6,[]),(7,[]),(8,[]),(10,[]),(11,[]),(12,[]),(13,[]),(15,[]),(16,[]),(17,[]),(18,[]),(20,[]),(21,[]),(22,[]),(23,[]),(4,[6,8,11,13,16,18,21,23]),(9,[11,13,16,18,21,23]),(14,[16,18,21,23]),(19,[21,23]),(24,[]),(25,[]),(26,[]),(27,[])]) S S<|SN aq 20 [0,1,0,0,1,1,1,0,2,1,2,0,3,1,3,0,4,1,4,0] Z Z<|eW Z Z (Tk Z Z Z) (fun _=>Z) (iv b _ _ aq) ?_));rintro _ V ⟨C,E,rfl,aq⟩;refine⟨(aZ (bh Z Z Z Z Z (Tm Z (aq.get 3 Z) Z)<|dD _ _)<|aZ (bh Z Z Z Z Z (Tm Z (aq.get 2 Z) Z)<|dD _ _)<|aZ (bh Z Z Z Z Z (Tm Z (aq.get 3 Z) Z)<|dD _ _)<|aZ (bh Z Z Z Z Z (Tm Z (aq.get 2 Z) Z)<|dD _ _)<|aZ (bh Z Z Z Z Z (Tm Z (aq.get 3 Z) Z)<|dD _ _)<|aZ (bh Z Z Z Z Z (Tm Z (aq.get 2 Z) Z)<|dD _ _)<|aZ (bh Z Z Z Z Z (Tm Z (aq.get 3 Z) Z)<|dD _ _)<|aZ (bh Z Z Z Z Z (Tm Z (aq.get 2 Z) Z)<|dD _ _) aV),?_⟩;refine eW Z Z (Tk Z Z Z) (fun _=>Z) (iv b _ _ aq) ?_;rintro _ V ⟨F,I,rfl,aq⟩;refine⟨(aZ (bh Z Z Z Z Z (Tm Z (aq.get 5 Z) Z)<|dD _ _)<|aZ (bh Z Z Z Z Z (Tm Z (aq.get 4 Z) Z)<|dD _ _)<|aZ (bh Z Z Z Z Z (Tm Z (aq.get 5 Z) Z)<|dD _ _)<|aZ (bh Z Z Z Z Z (Tm Z (aq.get 4 Z) Z)<|dD _ _)<|aZ (bh Z Z Z Z Z (Tm Z (aq.get 5 Z) Z)<|dD _ _)<|aZ (bh Z Z Z Z Z (Tm Z (aq.get 4 Z) Z)<|dD _ _) aV),?_⟩;refine eW Z Z (Tk Z Z Z) (fun _=>Z) (iv b _ _ aq) ?_;rintro _ V ⟨Q,R,rfl,aq⟩;refine⟨(aZ (bh Z Z Z Z Z (Tm Z (aq.get 7 Z) Z)<|dD _ _)<|aZ (bh Z Z Z Z Z (Tm Z (aq.get 6 Z) Z)<|dD _ _)<|aZ (bh Z Z Z Z Z (Tm Z (aq.get 7 Z) Z)<|dD _ _)<|aZ (bh Z Z Z Z Z (Tm Z (aq.get 6 Z) Z)<|dD _ _) aV),?_⟩;refine eW Z Z (Tk Z Z Z) (fun _=>Z) (xJ b _ _ aq) ?_;rintro _ V ⟨T,d,rfl,aq⟩;refine⟨(aZ (bh Z Z Z Z Z (Tm Z (aq.get 9 Z) Z)<|dD _ _)<|aZ (bh Z Z Z Z Z (Tm Z (aq.get 8 Z) Z)<|dD _ _) aV),?_⟩;refine eW Z Z (Tk Z Z Z) (fun _=>Z) (xJ b _ _ aq) ?_;rintro _ V ⟨u,A,rfl,aq⟩;refine⟨aV,?_⟩;refine lJ aq Z Z (bN (e:=115) (m:=1) (z:=[.nilFunc]) (cs:=[.func 113 [] [.ptr C 0,.ptr E 0],.func 113 [] [.ptr F 0,.ptr I 0],.func 113 [] [.ptr Q 0,.ptr R 0],.func 159 [] [.ptr T 0,.ptr d 0],.func 159 [] [.ptr u 0,.ptr A 0]]) S S S S (by rfl)) (fun _=>Z) (fun V aa aq=>?_);have hq:=aq.keeps (M:=[_,_,_,_,_,_,_,_,_,_,_,_,_])
 refine dZ Z Z (Tk Z Z Z) (fun _=>Z) (nm<|qm b hq<|fc.slice (fc.cons (qP b (KP.cA 10 Z)<|KP.cA 9 Z)<|fc.cons (qP b (KP.cA 8 Z)<|KP.cA 7 Z)<|fc.cons (qP b (KP.cA 6 Z)<|KP.cA 5 Z)<|fc.cons (KG b (KP.cA 4 Z)<|KP.cA 3 Z)<|fc.cons (KG b (KP.cA 2 Z)<|KP.cA 1 Z) fc.nil) (KP.cA 0 Z) Z (nR_ _) (by decide)) (fun V aq=>?_);clear hq;refine⟨aV,?_⟩;refine R9 3 Z<|aF ?_;exact aA Z Z ⟨Z,aq⟩
theorem Dj {G:Cx} (b:Plain G) {K:KP} (x y:cQ) {V:N} {L:Own} (aq:St V K L):aW Tryz.prog G 119 [.agg [.int .i64 x.cq,.int .i64 x.index],.agg [.int .i64 y.cq,.int .i64 y.index]] V fun v V'=>v= .int .i64 (ou x y)/\St V' K L:=by
 refine SC b Tryz.func119 Z<|R5 2 Z<|kp aq Z (cG Z Z) (fun V b1 aq=>?_);refine kp aq Z (cG Z Z) (fun V b2 aq=>?_);refine R7 3 Z (H (aU (l:=[(0,[]),(1,[]),(2,[]),(3,[]),(5,[]),(6,[]),(7,[]),(8,[]),(4,[6,8]),(9,[]),(10,[]),(11,[]),(12,[])]) S S<|SN aq 8 [0,1,0,0,1,1,1,0] Z Z<|eW Z Z (Tk Z Z Z) (fun _=>Z) (iv b _ _ aq) ?_));rintro _ V ⟨d,u,rfl,aq⟩;refine⟨(aZ (bh Z Z Z Z Z (Tm Z (aq.get 3 Z) Z)<|dD _ _)<|aZ (bh Z Z Z Z Z (Tm Z (aq.get 2 Z) Z)<|dD _ _) aV),?_⟩;refine eW Z Z (Tk Z Z Z) (fun _=>Z) (iv b _ _ aq) ?_;rintro _ V ⟨A,C,rfl,aq⟩;refine⟨aV,?_⟩;refine lJ aq Z Z (bN (e:=115) (m:=1) (z:=[.nilFunc]) (cs:=[.func 113 [] [.ptr d 0,.ptr u 0],.func 113 [] [.ptr A 0,.ptr C 0]]) S S S S (by rfl)) (fun _=>Z) (fun V b7 aq=>?_);have hq:=aq.keeps (M:=[_,_,_,_,_,_,_]);refine dZ Z Z (Tk Z Z Z) (fun _=>Z) (nm<|qm b hq<|fc.slice (fc.cons (qP b (KP.cA 4 Z)<|KP.cA 3 Z)<|fc.cons (qP b (KP.cA 2 Z)<|KP.cA 1 Z) fc.nil) (KP.cA 0 Z) Z (nR_ _) (by decide)) (fun V aq=>?_);clear hq;refine⟨aV,?_⟩;refine R9 3 Z<|aF ?_;exact aA Z Z ⟨Z,aq⟩
end Go.Ev
namespace Go.Ev
variable [Env]
section
variable {α:Type} {c:α->α->Int}
theorem vO:∀(l:List α) (p x:α),ke c p (l++[x])=ke c p l++(if c x ((p::l).getLast (by simp))=0 then [] else [x])
 | [],p,x=>by
  show(if c x p=0 then [] else [x])=_;rfl
 | y::l,p,x=>by
  have ih:=vO l y x;show(if c y p=0 then ke c y (l++[x]) else y::ke c y (l++[x]))=(if c y p=0 then ke c y l else y::ke c y l)++_;rw[ih,List.getLast_cons<|List.cons_ne_nil _ _];split<;>simp
theorem rX {l:List α} {i:Nat} {x y:α} (hy:l[i]? =some y) (hx:l[i+1]? =some x):cW c (l.take (i+2))=cW c (l.take (i+1))++(if c x y=0 then [] else [x]):=by
 cases l with
 | nil=>simp at hy
 | cons p l=>
  have d:l[i]? =some x:=by simpa using hx
  have e1:l.take (i+1)=l.take i++[x]:=by rw[List.take_add_one,d];rfl
  rw[show i+2=(i+1)+1 from Z,List.take_succ_cons,List.take_succ_cons];show p::ke c p (l.take (i+1))=p::(ke c p (l.take i)++_);refine congrArg (p::·) ?_
  have hq:=vO (c:=c) (l.take i) p x;rw[<-e1] at hq
  have b:(p::l.take i).getLast (by simp)=y:=by
   rw[List.getLast_eq_getElem];have hi:i<=l.length:=by have:=(gA.1 d).1;omega
   have m:(p::l.take i)[i]? =some y:=by rw[<-List.take_succ_cons,List.getElem?_take,if_pos oM];exact hy
   obtain⟨h3,h4⟩:=gA.1 m;rw[<-h4];congr 1;simp only[List.length_cons,lT_];omega
  rw[b] at hq;rw[e1];rw[e1] at hq;exact hq
theorem rW:∀(l:List α) (p:α),(ke c p l).length<=l.length
 | [],_=>nR_ _
 | y::l,p=>by
  have:=rW l y;show(if c y p=0 then ke c y l else y::ke c y l).length<=_;split<;>simp<;>omega
theorem oz (l:List α):(cW c l).length<=l.length:=by
 cases l with
 | nil=>exact nR_ _
 | cons p l=>exact Nat.succ_le_succ (rW l p)
theorem Ku {A l:List α} {x:α} (b:A.length<l.length):(A++l.drop A.length).set A.length x=(A++[x])++l.drop (A++[x]).length:=by
 rw[List.set_append_right _ _<|nR_ _,Nat.sub_self,List.drop_eq_getElem_cons b,List.set_cons_zero,lQ_,lA_];rfl
end
def XG.nil:XG:=⟨[],[],[],[]⟩
theorem dj.zero {K:KP}:dj K XG.nil .au .au .au .au:=⟨.inl ⟨Z,Z⟩,.inl ⟨Z,Z⟩,.inl ⟨Z,Z⟩,.inl ⟨Z,Z⟩⟩
structure nY (K:KP) (ls:List XG) (cells:List J):Prop where
 len:cells.length=ls.length*4
 at_:∀(i:Nat) (x:XG),ls[i]? =some x->∃a b c d,(cells.drop (i*4)).take 4= [a,b,c,d]/\dj K x a b c d
def RG (K:KP) (g:XG) (vs:List J):Prop:=∃a b c d,vs= [a,b,c,d]/\dj K g a b c d
theorem RG.mono {K K':KP} (hk:KP.le K K') {g:XG} {vs:List J} (h:RG K g vs):RG K' g vs:=by
 obtain⟨a,b,c,d,h1,m⟩:=h;exact⟨a,b,c,d,h1,m.mono hk⟩
theorem RG.leaf {K:KP} (g:XG) (vs:List J) (h:RG K g vs):bO vs=true:=by
 obtain⟨a,b,c,d,rfl,m⟩:=h;exact ar m.init.leaf.2<|ar m.threads.leaf.2<|ar m.from_.leaf.2<|ar m.order.leaf.2 aQ
section
variable {K:KP} {ls:List XG} {cells:List J}
theorem nY.mono {K':KP} (h:nY K ls cells) (hk:KP.le K K'):nY K' ls cells:=⟨h.len,fun i x hx=>let ⟨a,b,c,d,h1,m⟩:=h.at_ i x hx;⟨a,b,c,d,h1,m.mono hk⟩⟩
theorem nY.rd (h:nY K ls cells) {i:Nat} {x:XG} (hx:ls[i]? =some x) {off:Nat} (m:off=i*4):∃a b c d,(cells.drop off).take 4= [a,b,c,d]/\dj K x a b c d/\off+4<=cells.length:=by
 subst m;obtain⟨a,b,c,d,h1,u⟩:=h.at_ i x hx;refine⟨a,b,c,d,h1,u,?_⟩;have:=(gA.1 hx).1;rw[h.len];omega
theorem nY.wr (h:nY K ls cells) {i:Nat} {x:XG} (hi:i<ls.length) {a b c d:J} (A:dj K x a b c d) {off:Nat} (C:off=i*4):nY K (ls.set i x) (dB [a,b,c,d] cells off):=by
 subst C;have hl:i*4+ [a,b,c,d].length<=cells.length:=by rw[h.len];show i*4+4<=_;omega
 have hs:=kW [a,b,c,d] cells (i*4) hl;rw[hs];have h4: [a,b,c,d].length=4:=rfl;rw[h4];have m:(cells.take (i*4)).length=i*4:=by rw[lT_];have:i*4+4<=cells.length:=hl;omega
 refine⟨by rw[List.length_set,lA_,lA_,m,lD_,h4,h.len];omega,fun j y hy=>?_⟩
 by_cases e:i=j
 ·subst e;rw[List.getElem?_set_self hi] at hy;cases hy;refine⟨a,b,c,d,?_,A⟩;rw[lQ_,List.drop_append,m,Nat.sub_self,List.drop_of_length_le oM];rfl
 rw[List.getElem?_set_ne e] at hy;obtain⟨a',b',c',d',h1,E⟩:=h.at_ j y hy;refine⟨a',b',c',d',?_,E⟩;rw[<-h1];refine List.ext_getElem? fun t=>?_
 rw[List.getElem?_take,List.getElem?_take]
 by_cases u:t<4
 ·rw[if_pos u,if_pos u,List.getElem?_drop,List.getElem?_drop]
  by_cases hj:j<i
  ·rw[lQ_,gL_ (by rw[m];omega),List.getElem?_take,if_pos oM]
  rw[lQ_,gR_ (by rw[m];omega),gR_ (by rw[m,h4];omega),m,h4,List.getElem?_drop];congr 1;omega
 rw[if_neg u,if_neg u]
theorem nY.S2 (h:nY K ls cells) {k:Nat} (hk:k<=ls.length) {off:Nat} (A:off=k*4) {zs:List J} (hz:zs=List.replicate ((ls.length-k)*4) .au):nY K (ls.take k++List.replicate (ls.length-k) XG.nil) (dB zs cells off):=by
 subst A hz;have hl:k*4+(List.replicate ((ls.length-k)*4) J.au).length=cells.length:=by rw[h.len,List.length_replicate,<-Nat.add_mul];congr 1;omega
 rw[kW _ cells (k*4) oM,hl,List.drop_length,List.append_nil];have b:(cells.take (k*4)).length=k*4:=by rw[lT_];omega
 have m:(List.replicate ((ls.length-k)*4) J.au).length=(ls.length-k)*4:=List.length_replicate;refine⟨by rw[lA_,lA_,b,m,lT_,List.length_replicate,<-Nat.add_mul];congr 1;omega,fun j y hy=>?_⟩;have u:(ls.take k).length=k:=by rw[lT_];omega
 by_cases hj:j<k
 ·rw[gL_ oM,List.getElem?_take,if_pos hj] at hy;obtain⟨a',b',c',d',h1,C⟩:=h.at_ j y hy;refine⟨a',b',c',d',?_,C⟩;rw[<-h1];refine List.ext_getElem? fun t=>?_
  rw[List.getElem?_take,List.getElem?_take]
  by_cases d:t<4
  ·rw[if_pos d,if_pos d,List.getElem?_drop,List.getElem?_drop,gL_ (by rw[b];omega),List.getElem?_take,if_pos oM]
  rw[if_neg d,if_neg d]
 rw[gR_ oM,u,List.getElem?_replicate] at hy;split at hy
 ·rename_i aa;cases hy;refine⟨.au,.au,.au,.au,?_,dj.zero⟩;rw[List.drop_append,b,List.drop_of_length_le (by rw[b];omega),List.nil_append,List.drop_replicate,List.take_replicate];rw[Nat.min_eq_left oM];rfl
 cases hy
theorem nY.gS (h:nY K ls cells) {b e n:Nat} {c:nL} (hb:K b (.row cells e false)) (hn:n<=ls.length) (hc:Bl 4 n c) (hl:ls.length<=1048576):bG K 4 (RG K) (ls.take n) (.slice b 0 n c):=by
 have hlen:(ls.take n).length=n:=by rw[lT_];omega
 refine .inr ⟨b,0,c,cells,e,false,by rw[hlen],by rw[hlen];exact hc,hb,by rw[hlen,h.len];omega,by rw[hlen];omega,fun i x hx=>?_⟩;have hi:i<n:=by rw[<-hlen];exact(gA.1 hx).1
 rw[List.getElem?_take,if_pos hi] at hx;rw[nA_];obtain⟨a,b,c,d,h1,m⟩:=h.at_ i x hx;exact⟨a,b,c,d,h1,m⟩
theorem cS.Se {E:Nat} {u:J} {M:Own} (h:cS 4 E (RG K) ls u M) (hne:ls≠[]):∃b c e cells,u= .slice b 0 ls.length c/\M= [(b,.row cells e false)]/\nY K ls cells/\(c= .known ls.length∨c= .upto 4)/\ls.length<=1048576:=by
 rcases h with ⟨h,_⟩ | ⟨b,c,cells,e,h1,m,A,h4,h5,C⟩
 ·exact absurd h hne
 refine⟨b,c,e,cells,h1,m,⟨A,fun i x hx=>?_⟩,?_,C⟩
 ·obtain⟨a,b,c,d,e1,e2⟩:=h4 i x hx;exact⟨a,b,c,d,e1,e2⟩
 rcases h5 with h5 | ⟨h5,_⟩
 ·exact .inl h5
 exact .inr h5
end
section
variable {P:Program} {G:Cx} {ev:Operand->Option J} {V:N} {K:KP} {L:Own}
theorem nk {kk:IntKind} {lo:Operand} {k n cap:Nat} (b:ev lo=some (.int kk (.ofNat k))) (hk:k<=n):cO ev n cap (some lo) none=some (k,n):=by
 have hb:dW ev lo n=some k:=by
  unfold dW;rw[b];dsimp only;rw[show Nat.ble k n=true from by rw[nE_];exact hk];rfl
 unfold cO;dsimp only;rw[hb]
theorem PC {t e sz b n k:Nat} {kk:IntKind} {c:nL} {x lo:Operand} (m:P.underlying t=some (.slice e)) (hj:(P.info? e).map (·.size)=some sz) (hc:c= .known n∨c= .upto sz) (hx:ev x=some (.slice b 0 n c)) (d:ev lo=some (.int kk (.ofNat k))) (hk:k<n):
  ∃c',dM P G ev V (.slice t x (some lo) none none)= .val (.slice b (0+k*sz) (n-k) c') V:=by
 rcases hc with rfl | rfl
 ·exact⟨_,Du m hj hx (nk d oM) hk⟩
 exact⟨_,Dv m hj hx<|nk d oM⟩
theorem NC {t e b off n:Nat} {c:Call} {cp:nL} {x:Operand} {cells zs:List J} {z:J} {e':Nat} (hc:c.callee= .builtin .clear) (E:c.argTypes[0]? =some t) (F:c.args.toList= [x]) (hu:P.underlying t=some (.slice e)) (hz:(eQ P e)=some z) (u:cd z=some zs)
  (hx:ev x=some (.slice b off n cp)) (I:n≠0) (hb:V.m.get b=some (.row cells e' false)) (d:bO (ec zs n)=true) (h1:1<=zs.length) (hl:off+(ec zs n).length<=cells.length):
  dM P G ev V (.call c)= .val (.tuple []) (V.setObj b (.row (dB (ec zs n) cells off) e' false)):=by
 refine iy (by simp[kindOf,hc]) ?_
 have he:tb ev [x]=some [.slice b off n cp]:=by
  unfold tb cM;simp only[hx]
 have A:sY P V c.argTypes (.slice b off n cp)=some (V.setObj b (.row (dB (ec zs n) cells off) e' false)):=by
  unfold sY;rw[E];dsimp only;rw[hu];dsimp only;have C:Nat.beq n 0=false:=by cases n with | zero=>exact absurd rfl I | succ n=>rfl
  rw[C,hz];simp only[Option.bind_some,u,hb,cond_false,d,Bool.true_and,bT];rw[show Nat.ble 1 zs.length=true from by rw[nE_];exact h1,show Nat.ble (off+(ec zs n).length) cells.length=true from by rw[nE_];exact hl];rfl
 simp only[fw,hc,F,he,A]
theorem vI {kk:IntKind} {hi:Operand} {k n cap:Nat} (b:ev hi=some (.int kk (.ofNat k))) (hk:k<=cap):cO ev n cap none (some hi)=some (0,k):=by
 have hb:dW ev hi cap=some k:=by
  unfold dW;rw[b];dsimp only;rw[show Nat.ble k cap=true from by rw[nE_];exact hk];rfl
 unfold cO;dsimp only;rw[hb]
theorem Sw {t e sz b n k:Nat} {kk:IntKind} {c:nL} {x hi:Operand} (m:P.underlying t=some (.slice e)) (hj:(P.info? e).map (·.size)=some sz) (hc:c= .known n∨c= .upto sz) (hx:ev x=some (.slice b 0 n c)) (d:ev hi=some (.int kk (.ofNat k))) (hk:k<=n) (u:0<n):
  dM P G ev V (.slice t x none (some hi) none)= .val (.slice b 0 k c) V:=by
 rcases hc with rfl | rfl
 ·have h:=Du (P:=P) (G:=G) (V:=V) m hj hx (vI d hk) u;rw[Nat.zero_mul,Nat.add_zero,Nat.sub_zero,Nat.sub_zero] at h;exact h
 have h:=Dv (P:=P) (G:=G) (V:=V) m hj hx (vI d hk);rw[Nat.zero_mul,Nat.add_zero,Nat.sub_zero] at h;exact h
end
section
variable {P:Program} {G:Cx} {n:Nat} {t:PT J} {V:N} {K:KP} {L:Own} {Q:Ex->PT J->N->Prop} {ops:Array Oper} {o:Oper} {l:List Oper}
theorem J7 {ty e sz b len k:Nat} {kk:IntKind} {c:nL} {xo lo:Operand} {t':J->PT J} (hw:bF ops t o=some true) (u:o.op= .slice ty xo (some lo) none none) (A:P.underlying ty=some (.slice e)) (hj:(P.info? e).map (·.size)=some sz) (hc:c= .known len∨c= .upto sz)
  (hx:bn G t xo=some (.slice b 0 len c)) (d:bn G t lo=some (.int kk (.ofNat k))) (hk:k<len) (hp:∀v,dA t n o.dst v=some (t' v)) (h:∀c',bP P G ops n l (t' (.slice b (0+k*sz) (len-k) c')) V Q):bP P G ops n (o::l) t V Q:=by
 obtain⟨c',m⟩:=PC (G:=G) (V:=V) A hj hc hx d hk;exact Y hw (by rw[u];exact m) (hp _)<|h c'
theorem OP {b:Nat} {ob':cu} {L':Own} {v:J} {t':PT J} (d:St V K L) (hu:kY b ob' L L') (hw:bF ops t o=some true) (hv:dM P G (bn G t) V o.op= .val v (V.setObj b ob')) (hp:dA t n o.dst v=some t')
  (h:∀V',St V' K L'->bP P G ops n l t' V' Q):bP P G ops n (o::l) t V Q:=Y hw hv hp (h _<|d.Sl hu)
end
theorem lZ {x y:Int} (h:bM x y=true):x=y:=by rw[dv] at h;simpa using h
theorem fX {x y:Int} (h:bM x y=false):x≠y:=by rw[dv] at h;simpa using h
theorem zO {α:Type} {A l:List α} {i:Nat} {x:α} (hx:l[i]? =some x) (h:A.length<=i):(A++l.drop A.length)[i]? =some x:=by
 rw[gR_ h,List.getElem?_drop,Nat.add_sub_cancel' h];exact hx
theorem zX {α:Type} {c:α->α->Int} {l:List α} (h:2<=l.length):cW c (l.take (0+1))=l.take (0+1):=by
 cases l with
 | nil=>simp at h
 | cons x l=>rfl
theorem zZ {α:Type} {A l:List α} (h:A.length<=l.length):(A++l.drop A.length).length=l.length:=by rw[lA_,lD_];omega
theorem Lc {α:Type} {A l:List α}:(A++l.drop A.length).take A.length=A:=by simp
end Go.Ev
namespace Go.Ev
section
def dg (d:Nat):Nat:=(n9 d).toNat
def tg (m:Nat):List Nat:=(ft 36 m).map dg
def fmtS (b:Nat) (z:Int):List Nat:=(uR b z).map UInt8.toNat
theorem wj (b m:Nat):fmtS b (.ofNat m)=(ft b m).map dg:=by
 unfold fmtS uR;rw[if_neg (by simp)];rw[List.map_map];rfl
theorem Jp {b m:Nat} (h:0<m):fmtS b (-(m:Int))=45::(ft b m).map dg:=by
 unfold fmtS uR;rw[if_pos oM,List.map_cons,List.map_map,Int.neg_neg];rfl
theorem wi {m:Nat} (h:m<36):tg m= [dg m]:=by
 unfold tg ft;rw[dif_pos (.inl h)];rfl
theorem yJ {m:Nat} (h:36<=m):tg m=tg (m/36)++[dg (m%36)]:=by
 unfold tg;rw[ft,dif_neg oM,List.map_append];rfl
theorem FL {d:Nat} (h:d<36):dg d<=255:=by
 unfold dg;have:=(n9 d).toNat_lt;omega
def z6:List Nat:=[48,49,50,51,52,53,54,55,56,57,97,98,99,100,101,102,103,104,105,106,107,108,109,110,111,112,113,114,115,116,117,118,119,120,121,122]
theorem vd {d:Nat} (h:d<36):z6[d]? =some (dg d):=by
 have key:∀d<36,z6[d]? =some (if d<10 then 48+d else 87+d):=by decide
 unfold dg;rw[iA h,key d h]
def Fb:List Nat:=(List.range 100).flatMap fun n=>[48+n/10,48+n%10]
theorem KW {n:Nat} (h:n<10):(z6.drop n).take (n+1-n)=fmtS 10 (.ofNat n):=by
 rw[wj];unfold ft;rw[dif_pos (.inl h)];have key:∀n<10,(z6.drop n).take (n+1-n)= [48+n]:=by decide
 rw[key n h];show _= [dg n];unfold dg;rw[iA oM,if_pos h]
theorem KV {n:Nat} (h:n<100) (h2:10<=n):(Fb.drop (n*2)).take (n*2+2-n*2)=fmtS 10 (.ofNat n):=by
 rw[wj];unfold ft;rw[dif_neg oM];unfold ft;rw[dif_pos (.inl oM)];have key:∀n<100,(Fb.drop (n*2)).take (n*2+2-n*2)= [48+n/10,48+n%10]:=by decide+kernel
 rw[key n h];show _= [dg (n/10),dg (n%10)];unfold dg;rw[iA oM,iA oM,if_pos oM,if_pos oM]
end
variable [Env]
def g8 (c:Nat):J:=.int .u8 (.ofNat c)
section
variable {P:Program} {G:Cx} {ev:Operand->Option J} {V:N}
theorem N6 {k:Bool} {t:TypeId} {m:Nat} (h:m<2 ^ 64):q8 P k .quo t (.int .u64 (.ofNat m)) (.int .u64 (.ofNat 36))=some (.int .u64 (.ofNat (m/36))):=by
 show some (J.int .u64<|wr .u64<|Int.ofNat (m/36))=_;rw[NA<|Nat.lt_of_le_of_lt (Nat.div_le_self _ _) h]
theorem N0 {k:Bool} {t:TypeId} {m:Nat} (h:m<2 ^ 64):q8 P k .mul t (.int .u64 (.ofNat (m/36))) (.int .u64 (.ofNat 36))=some (.int .u64 (.ofNat (m/36*36))):=by
 show some (J.int .u64<|wr .u64<|Int.ofNat (m/36*36))=_;rw[NA<|Nat.lt_of_le_of_lt (Nat.div_mul_le_self _ _) h]
theorem N8 {k:Bool} {t:TypeId} {m:Nat} (h:m<2 ^ 64):q8 P k .sub t (.int .u64 (.ofNat m)) (.int .u64 (.ofNat (m/36*36)))=some (.int .u64 (.ofNat (m%36))):=by
 show some (J.int .u64<|wr .u64<|Int.sub (.ofNat m) (.ofNat (m/36*36)))=_
 have e:Int.sub (.ofNat m) (.ofNat (m/36*36))= .ofNat (m%36):=by
  show(m:Int)-((m/36*36:Nat):Int)=((m%36:Nat):Int);omega
 rw[e,NA oM]
theorem Bi {s d:TypeId} {x:Operand} {j k:IntKind} {n m:Int} (hk:kindOf P (.convert s d x)= .pure) (b:P.underlying s=some (.int j)) (hd:P.underlying d=some (.int k)) (hx:ev x=some (.int j n)) (hw:wr k n=m):dM P G ev V (.convert s d x)= .val (.int k m) V:=by
 rw[<-hw];exact Lv hk b hd hx
theorem xL {t e b n i sz:Nat} {kk:IntKind} {x lo:Operand} (u:P.underlying t=some (.array n e)) (hj:(P.info? e).map (·.size)=some sz) (hx:ev x=some (.ptr b 0)) (d:ev lo=some (.int kk (.ofNat i))) (hi:i<n):
  dM P G ev V (.slice t x (some lo) none none)= .val (.slice b (0+i*sz) (n-i) (.known (n-i))) V:=by
 obtain⟨j,m,rfl⟩:=oM_.1 hj;refine bD Z ?_;have hb:=nk (ev:=ev) (n:=n) (cap:=n) d (Nat.le_of_lt hi)
 have hne:Nat.beq n i=false:=by
  cases h:Nat.beq n i with
  | false=>rfl
  | true=>have:=nB h;omega
 simp only[du,fy,u,hx,cutAt,hb,cut,m,hne,cond_false]
theorem G8 {s d e b e' i n:Nat} {a:List Nat} {c:nL} {x:Operand} (C:P.underlying s=some (.slice e)) (he:P.underlying e=some (.int .u8)) (hd:P.underlying d=some .string) (hk:kindOf P (.convert s d x)= .read) (hx:ev x=some (.slice b (0+i*1) (n-i) c)) (hn:a.length=n) (hi:i<n) (hb:V.m.get b=some (.row (a.map g8) e' false)) (u:∀c∈a,c<=255):
  dM P G ev V (.convert s d x)= .val (.str<|a.drop i) V:=by
 refine pE hk ?_
 have h0:Nat.beq (n-i) 0=false:=by
  cases h:Nat.beq (n-i) 0 with
  | false=>rfl
  | true=>have:=nB h;omega
 have hl:Nat.ble (0+i*1+(n-i)) (a.map g8).length=true:=by rw[nE_,lM_];omega
 have A:((a.map g8).drop (0+i*1)).take (n-i)=fE (a.drop i):=by
  rw[nA_,Nat.mul_one,<-List.map_drop,tL_ (by simp;omega)];rfl
 simp only[eY,C,hd,he,hx,h0,hb,cond_false,bT,hl,cond_true,dp,dF,A,rh _ (fun c hc=>u c (List.mem_of_mem_drop hc))]
end
end Go.Ev
namespace Go.Ev
variable [Env]
theorem KN {n:Nat}:∀{l:List Nat},l.Nodup->(∀x∈l,x<n)->l.length<=n:=by
  induction n with
  | zero=>
    intro l _ h;cases l with
    | nil=>exact nR_ _
    | cons x l=>exact absurd (h x<|mS_ ..) (nZ_ _)
  | succ n ih=>
    intro l b h
    by_cases hm:n∈l
    · have h1:=ih (l:=l.erase n) (b.erase n) fun x hx=>by
        have h2:=h x (List.mem_of_mem_erase hx);have d:x≠n:=(b.mem_erase_iff.1 hx).1;omega
      rw[List.length_erase_of_mem hm] at h1;omega
    · have:=ih (l:=l) b fun x hx=>by
        have h2:=h x hx;have d:x≠n:=fun e=>hm (e ▸ hx)
        omega
      omega
theorem IL {n:Nat} {l:List Nat} (b:l.Nodup) (h:∀x∈l,x<n) (hl:l.length=n) {v:Nat} (hv:v<n):v∈l:=by
  refine Classical.byContradiction fun hm=>?_
  have:=KN (l:=v::l) (List.nodup_cons.2 ⟨hm,b⟩) fun x hx=>by
    rcases mQ_.1 hx with rfl | hx
    · exact hv
    · exact h x hx
  rw[List.length_cons] at this;omega
structure gQ (cls:List Int) (n:Nat) (ps:List Int):Prop where
  len:ps.length=n
  nd:ps.Nodup
  at_:∀(i:Nat) (x:Int),ps[i]? =some x->∃v:Nat,x= .ofNat (v+1)/\v<n/\cls[v+1]? =cls[i+1]?
theorem gQ.pm {cls:List Int} {n:Nat} {ps:List Int} (h:gQ cls n ps):∃p q:Nat->Nat,Pm n p q/\(∀i,i<n->ps[i]? =some (.ofNat (p i+1)))/\∀i,i<n->cls[p i+1]? =cls[i+1]?:=by
  have hp:∀i,∃v:Nat,i<n->ps[i]? =some (.ofNat (v+1))/\v<n/\cls[v+1]? =cls[i+1]?:=fun i=>by
    by_cases hi:i<n
    · obtain⟨x,hx⟩:=bZ (show i<ps.length by rw[h.len];exact hi)
      obtain⟨v,rfl,h1,h2⟩:=h.at_ i x hx;exact⟨v,fun _=>⟨hx,h1,h2⟩⟩
    · exact⟨0,fun h=>absurd h hi⟩
  let p:Nat->Nat:=fun i=>Classical.choose (hp i)
  have d:∀i,i<n->ps[i]? =some (.ofNat (p i+1))/\p i<n/\cls[p i+1]? =cls[i+1]?:=fun i=>Classical.choose_spec (hp i)
  have u:∀i j,i<n->j<n->p i=p j->i=j:=fun i j hi hj e=>by
    have h1:=(d i hi).1;have h2:=(d j hj).1;rw[<-e] at h2;exact(List.getElem?_inj (by rw[h.len];exact hi) h.nd).1<|h1.trans h2.symm
  have hq:∀v,∃i:Nat,v<n->i<n/\p i=v:=fun v=>by
    by_cases hv:v<n
    · have:=IL (l:=(List.range n).map p) (n:=n) (List.pairwise_map.2<|List.nodup_range.imp_of_mem fun {a b} A hb hne e=>hne (u a b (List.mem_range.1 A) (List.mem_range.1 hb) e))
        (fun x hx=>by
          obtain⟨i,hi,rfl⟩:=List.mem_map.1 hx;exact(d i<|List.mem_range.1 hi).2.1) (by simp) hv
      obtain⟨i,hi,e⟩:=List.mem_map.1 this;exact⟨i,fun _=>⟨List.mem_range.1 hi,e⟩⟩
    · exact⟨0,fun h=>absurd h hv⟩
  let q:Nat->Nat:=fun v=>Classical.choose (hq v)
  have m:∀v,v<n->q v<n/\p (q v)=v:=fun v=>Classical.choose_spec (hq v)
  refine⟨p,q,⟨fun i hi=>(d i hi).2.1,fun v hv=>(m v hv).1,fun i hi=>?_,fun v hv=>(m v hv).2⟩,fun i hi=>(d i hi).1,fun i hi=>(d i hi).2.2⟩;have h1:=(d i hi).2.1;exact u _ _ (m _ h1).1 hi (m _ h1).2
def qR (rc:List Bool->List Int->List (List Int)×List Int) (cls:List Int) (t:Nat) (tk:List Bool) (s:List (List Int)×List Int) (to:Nat):List (List Int)×List Int:=
  bif (bif (tk[to]?).getD false then true else cC (bM ((cls[to]?).getD 0) ((cls[t]?).getD 0))) then s else(s.1++(rc (tk.set to true)<|s.2.set (t-1) (.ofNat to)).1,(rc (tk.set to true)<|s.2.set (t-1) (.ofNat to)).2)
def gF (cls:List Int) (n:Nat):Nat->Nat->List Bool->List Int->List (List Int)×List Int
  | 0,_,_,p=>([p],p)
  | f+1,t,tk,p=>((List.range n).map (· +1)).foldl (qR (gF cls n f (t+1)) cls t tk) ([],p)
structure IF (cls:List Int) (n t:Nat) (tk:List Bool) (p:List Int):Prop where
  len:p.length=n
  Pr:n<tk.length
  nd:(p.take (t-1)).Nodup
  at_:∀(i:Nat) (x:Int),i<t-1->p[i]? =some x->∃v:Nat,x= .ofNat (v+1)/\v<n/\cls[v+1]? =cls[i+1]?
  tk:∀(i:Nat) (v:Nat),i<t-1->p[i]? =some (.ofNat (v+1))->(tk[v+1]?).getD false=true
section
variable {cls:List Int} {n:Nat}
theorem C9 (hc:cls.length=n+1):∀(f t:Nat) (tk:List Bool) (p:List Int),1<=t->t+f=n+1->IF cls n t tk p->(∀x∈(gF cls n f t tk p).1,gQ cls n x)/\(gF cls n f t tk p).2.length=n/\(gF cls n f t tk p).2.take (t-1)=p.take (t-1)
  | 0,t,tk,p,K,G,h=>by
    have e:t-1=n:=by omega
    refine⟨fun x hx=>?_,h.len,Z⟩;obtain rfl:x=p:=List.mem_singleton.1 hx;have hnd:=h.nd;rw[e,tL_ (by rw[h.len];exact nR_ _)] at hnd;refine⟨h.len,hnd,fun i y hy=>h.at_ i y ?_ hy⟩;have:=(gA.1 hy).1;rw[h.len] at this;omega
  | f+1,t,tk,p,K,G,h=>by
    have key:∀(l:List Nat),(∀x∈l,1<=x/\x<=n)->∀(s:List (List Int)×List Int),(∀x∈s.1,gQ cls n x)->s.2.length=n->s.2.take (t-1)=p.take (t-1)->
        (∀x∈(l.foldl (qR (gF cls n f (t+1)) cls t tk) s).1,gQ cls n x)/\(l.foldl (qR (gF cls n f (t+1)) cls t tk) s).2.length=n/\(l.foldl (qR (gF cls n f (t+1)) cls t tk) s).2.take (t-1)=p.take (t-1):=by
      intro l;induction l with
      | nil=>intro _ s h1 A m;exact⟨h1,A,m⟩
      | cons to l ih=>
        intro hl s h1 A m;obtain⟨aa,ab⟩:=hl to (mS_ ..)
        refine ih (fun x hx=>hl x (mC_ _ hx)) (qR (gF cls n f (t+1)) cls t tk s to) ?_ ?_ ?_<;>unfold qR<;>
          cases hk:(tk[to]?).getD false with
          | true=>first | exact h1 | exact A | exact m
          | false=>
            simp only[cond_false];cases hq:bM ((cls[to]?).getD 0) ((cls[t]?).getD 0) with
            | false=>first | exact h1 | exact A | exact m
            | true=>
              simp only[show cC true=false from Z,cond_false]
              have C:∀i,i<t-1->s.2[i]? =p[i]?:=fun i hi=>by
                have:(s.2.take (t-1))[i]? =(p.take (t-1))[i]?:=by rw[m]
                rwa[List.getElem?_take_of_lt hi,List.getElem?_take_of_lt hi] at this
              have u:t-1<s.2.length:=by rw[A];omega
              have I:IF cls n (t+1) (tk.set to true) (s.2.set (t-1) (.ofNat to)):=by
                have d:∀i,i<t+1-1->i=t-1∨i<t-1:=fun i hi=>by omega
                refine⟨by rw[List.length_set];exact A,by rw[List.length_set];exact h.Pr,?_,fun i x hi hx=>?_,fun i v hi hx=>?_⟩
                · rw[show t+1-1=t-1+1 by omega,List.take_add_one,List.take_set_of_le<|nR_ _,List.getElem?_set_self u,m]
                  refine List.nodup_append.2 ⟨h.nd,List.nodup_cons.2 ⟨(fun h=>by cases h),List.nodup_nil⟩,fun a E b hb e=>?_⟩;have hb:b= .ofNat to:=List.mem_singleton.1 hb;subst e;subst hb;obtain⟨i,hi⟩:=gO_ E
                  have F:i<t-1:=by
                    have:=(gA.1 hi).1;rw[lT_] at this;omega
                  rw[List.getElem?_take_of_lt F] at hi;have:=h.tk i (to-1) F (by rw[show to-1+1=to by omega];exact hi);rw[show to-1+1=to by omega,hk] at this;cases this
                · rcases d i hi with rfl | hi
                  · rw[List.getElem?_set_self u] at hx
                    cases hx;refine⟨to-1,by rw[show to-1+1=to by omega],by omega,?_⟩;rw[show to-1+1=to by omega,show t-1+1=t by omega];obtain⟨a,E⟩:=bZ (show to<cls.length by omega);obtain⟨b,hb⟩:=bZ (show t<cls.length by omega);rw[E,hb] at hq⊢;rw[dv] at hq;exact congrArg some<|of_decide_eq_true hq
                  · rw[List.getElem?_set_ne oM,C i hi] at hx
                    exact h.at_ i x hi hx
                · rcases d i hi with rfl | hi
                  · rw[List.getElem?_set_self u] at hx
                    have e:to=v+1:=iJ_ (Option.some.inj hx);rw[<-e,List.getElem?_set_self (by have:=h.Pr;omega)];rfl
                  · rw[List.getElem?_set_ne oM,C i hi] at hx
                    have h5:=h.tk i v hi hx
                    by_cases e:to=v+1
                    · rw[<-e,List.getElem?_set_self (by have:=h.Pr;omega)];rfl
                    · rw[List.getElem?_set_ne e];exact h5
              obtain⟨L,M,Q⟩:=C9 hc f (t+1) (tk.set to true) (s.2.set (t-1) (.ofNat to)) oM oM I
              first
              | exact fun x hx=>by
                  rcases List.mem_append.1 hx with hx | hx
                  · exact h1 x hx
                  · exact L x hx
              | exact M
              | (have e:List.take (t-1) (List.take (t+1-1) (gF cls n f (t+1) (tk.set to true) (s.2.set (t-1) (.ofNat to))).2)=List.take (t-1) (List.take (t+1-1) (s.2.set (t-1) (.ofNat to))):=by rw[Q]
                 rw[List.take_take,List.take_take,Nat.min_eq_left oM,List.take_set_of_le<|nR_ _,m] at e;exact e)
    exact key _ (fun x hx=>by
      obtain⟨a,E,rfl⟩:=List.mem_map.1 hx;have:=List.mem_range.1 E;omega) ([],p) (fun x hx=>by cases hx) h.len Z
def eu (cls:List Int) (n f t:Nat) (tk:List Bool) (p:List Int) (i:Nat):List (List Int)×List Int:=((List.range i).map (· +1)).foldl (qR (gF cls n f (t+1)) cls t tk) ([],p)
theorem vt {f t:Nat} {tk:List Bool} {p:List Int}:gF cls n (f+1) t tk p=eu cls n f t tk p n:=rfl
theorem rM {f t:Nat} {tk:List Bool} {p:List Int}:eu cls n f t tk p 0=([],p):=rfl
theorem xB {f t i:Nat} {tk:List Bool} {p:List Int}:eu cls n f t tk p (i+1)=qR (gF cls n f (t+1)) cls t tk (eu cls n f t tk p i) (i+1):=by
  unfold eu;rw[List.range_succ,List.map_append,List.foldl_append];rfl
theorem fM {f t i:Nat} {tk:List Bool} {p:List Int} (h:(bif (tk[i+1]?).getD false then true else cC (bM ((cls[i+1]?).getD 0) ((cls[t]?).getD 0)))=true):eu cls n f t tk p (i+1)=eu cls n f t tk p i:=by rw[xB];unfold qR;rw[h];rfl
theorem ir {f t i:Nat} {tk:List Bool} {p:List Int} (h:(bif (tk[i+1]?).getD false then true else cC (bM ((cls[i+1]?).getD 0) ((cls[t]?).getD 0)))=false):eu cls n f t tk p (i+1)=((eu cls n f t tk p i).1++(gF cls n f (t+1) (tk.set (i+1) true) ((eu cls n f t tk p i).2.set (t-1) (.ofNat (i+1)))).1,(gF cls n f (t+1) (tk.set (i+1) true) ((eu cls n f t tk p i).2.set (t-1) (.ofNat (i+1)))).2):=by rw[xB];unfold qR;rw[h];rfl
theorem qj:∀(f t:Nat) (tk:List Bool) (p:List Int),(gF cls n f t tk p).2.length=p.length/\(gF cls n f t tk p).1.length<=n ^ f
  | 0,_,_,p=>⟨Z,nR_ _⟩
  | f+1,t,tk,p=>by
    have key:∀i,(eu cls n f t tk p i).2.length=p.length/\(eu cls n f t tk p i).1.length<=i*n ^ f:=by
      intro i;induction i with
      | zero=>exact⟨Z,by simp[rM]⟩
      | succ i ih=>
        cases h:(bif (tk[i+1]?).getD false then true else cC (bM ((cls[i+1]?).getD 0) ((cls[t]?).getD 0))) with
        | true=>
          rw[fM h];exact⟨ih.1,Nat.le_trans ih.2<|nM_ _ oM⟩
        | false=>
          rw[ir h];obtain⟨h1,b⟩:=qj f (t+1) (tk.set (i+1) true) ((eu cls n f t tk p i).2.set (t-1) (.ofNat (i+1)));refine⟨by rw[h1,List.length_set];exact ih.1,?_⟩;rw[lA_,Nat.add_mul,Nat.one_mul];exact Nat.add_le_add ih.2 b
    obtain⟨h1,b⟩:=key n;rw[vt];exact⟨h1,by rw[Nat.pow_succ,Nat.mul_comm];exact b⟩
theorem tR {f t i:Nat} {tk:List Bool} {p:List Int}:(eu cls n f t tk p i).2.length=p.length:=by
  induction i with
  | zero=>rfl
  | succ i ih=>
    cases h:(bif (tk[i+1]?).getD false then true else cC (bM ((cls[i+1]?).getD 0) ((cls[t]?).getD 0))) with
    | true=>rw[fM h];exact ih
    | false=>rw[ir h,(qj f (t+1) _ _).1,List.length_set];exact ih
theorem Ib {f t i:Nat} {tk:List Bool} {p:List Int}:(eu cls n f t tk p i).1.length<=i*n ^ f:=by
  induction i with
  | zero=>simp[rM]
  | succ i ih=>
    cases h:(bif (tk[i+1]?).getD false then true else cC (bM ((cls[i+1]?).getD 0) ((cls[t]?).getD 0))) with
    | true=>rw[fM h];exact Nat.le_trans ih<|nM_ _ oM
    | false=>
      rw[ir h,lA_,Nat.add_mul,Nat.one_mul];exact Nat.add_le_add ih (qj f (t+1) _ _).2
theorem Ic {f t i a:Nat} {tk:List Bool} {p:List Int} (hi:i+1<=n) (h:a+n ^ (f+1)<=256):a+(eu cls n f t tk p i).1.length+n ^ f<=256:=by
  have h1:=Ib (cls:=cls) (n:=n) (f:=f) (t:=t) (i:=i) (tk:=tk) (p:=p);have b:(i+1)*n ^ f<=n*n ^ f:=nM_ _ hi;rw[Nat.add_mul,Nat.one_mul] at b;rw[Nat.pow_succ,Nat.mul_comm] at h;omega
def gV (l:List XC) (cls:List Int):List (List Int):=(gF cls l.length l.length 1 (List.replicate 5 false)<|List.replicate l.length 0).1
theorem y7 {l:List XC} {cls:List Int} (hc:cls.length=l.length+1) (h4:l.length<=4):(∀x∈gV l cls,gQ cls l.length x)/\(gV l cls).length<=256:=by
  refine⟨(C9 hc l.length 1 _ _ (nR_ _) oM ⟨by simp,by simp;omega,by simp,fun i x hi=>by omega,fun i v hi=>by omega⟩).1,?_⟩;have:=(qj (cls:=cls) (n:=l.length) l.length 1 (List.replicate 5 false)<|List.replicate l.length 0).2;refine Nat.le_trans this<|Nat.le_trans (Nat.pow_le_pow_left h4 _)<|Nat.pow_le_pow_right oM h4
end
section
variable {cls:List Int} {n:Nat}
theorem zm:∀(f t:Nat) (tk:List Bool) (p:List Int),1<=t->(gF cls n f t tk p).2.take (t-1)=p.take (t-1)
 | 0,_,_,_,_=>rfl
 | f+1,t,tk,p,ht=>by
  have key:∀i,(eu cls n f t tk p i).2.take (t-1)=p.take (t-1):=by
   intro i;induction i with
   | zero=>rfl
   | succ i ih=>
    cases h:(bif (tk[i+1]?).getD false then true else cC (bM ((cls[i+1]?).getD 0) ((cls[t]?).getD 0))) with
    | true=>rw[fM h];exact ih
    | false=>
     rw[ir h];have h1:=zm f (t+1) (tk.set (i+1) true) ((eu cls n f t tk p i).2.set (t-1) (.ofNat (i+1))) oM;have h2:=congrArg (List.take (t-1)) h1;rw[List.take_take,List.take_take,Nat.min_eq_left oM,List.take_set_of_le<|nR_ _] at h2;rw[<-ih];exact h2
  exact key n
theorem zk {f t i:Nat} {tk:List Bool} {p:List Int}:(eu cls n f t tk p i).2.take (t-1)=p.take (t-1):=by
 induction i with
 | zero=>rfl
 | succ i ih=>
  cases h:(bif (tk[i+1]?).getD false then true else cC (bM ((cls[i+1]?).getD 0) ((cls[t]?).getD 0))) with
  | true=>rw[fM h];exact ih
  | false=>
   rw[ir h];have h1:=zm (cls:=cls) (n:=n) f (t+1) (tk.set (i+1) true) ((eu cls n f t tk p i).2.set (t-1) (.ofNat (i+1))) oM;have h2:=congrArg (List.take (t-1)) h1;rw[List.take_take,List.take_take,Nat.min_eq_left oM,List.take_set_of_le<|nR_ _] at h2;rw[<-ih];exact h2
theorem xA {f t i j:Nat} {tk:List Bool} {p x:List Int} (h:x∈(eu cls n f t tk p i).1) (aa:i<=j):x∈(eu cls n f t tk p j).1:=by
 induction j with
 | zero=>
  obtain rfl:i=0:=by omega
  exact h
 | succ j ih=>
  rcases Nat.lt_or_ge j i with hh | hh
  ·obtain rfl:i=j+1:=by omega
   exact h
  have:=ih hh;cases hk:(bif (tk[j+1]?).getD false then true else cC (bM ((cls[j+1]?).getD 0) ((cls[t]?).getD 0))) with
  | true=>rw[fM hk];exact this
  | false=>rw[ir hk];exact List.mem_append_left _ this
theorem zl (hc:cls.length=n+1):∀(f t:Nat) (tk:List Bool) (p ps:List Int),1<=t->t+f=n+1->gQ cls n ps->p.length=n->n<tk.length->p.take (t-1)=ps.take (t-1)->
  (∀v:Nat,(tk[v+1]?).getD false=true->Int.ofNat (v+1)∈ps.take (t-1))->ps∈(gF cls n f t tk p).1
 | 0,t,tk,p,ps,I,u,b,hp,_,he,_=>by
  rw[tL_ oM,tL_ (by rw[b.len];omega)] at he;exact List.mem_singleton.2 he.symm
 | f+1,t,tk,p,ps,I,u,b,hp,A,he,hk=>by
  obtain⟨x,hx⟩:=bZ (show t-1<ps.length by rw[b.len];omega);obtain⟨v,rfl,hv,m⟩:=b.at_ (t-1) x hx;rw[show t-1+1=t by omega] at m
  have d:(tk[v+1]?).getD false=false:=by
   cases hh:(tk[v+1]?).getD false with
   | false=>rfl
   | true=>
    obtain⟨i,hi⟩:=gO_ (hk v hh)
    have C:i<t-1:=by
     have:=(gA.1 hi).1;rw[lT_] at this;omega
    rw[List.getElem?_take_of_lt C] at hi;have:=(List.getElem?_inj (by rw[b.len];omega) b.nd).1 (hi.trans hx.symm);omega
  have E:(bif (tk[v+1]?).getD false then true else cC (bM ((cls[v+1]?).getD 0) ((cls[t]?).getD 0)))=false:=by
   rw[d,m,ey];rfl
  refine xA (i:=v+1) ?_ hv;rw[ir E];refine List.mem_append_right _ ?_;have hlen:(eu cls n f t tk p v).2.length=n:=by rw[tR,hp]
  have F:t-1<(eu cls n f t tk p v).2.length:=by rw[hlen];omega
  have G:Int.ofNat (v+1)∈ps.take (t+1-1):=by
   rw[show t+1-1=t-1+1 by omega,List.take_add_one,hx];exact List.mem_append_right _<|List.mem_singleton.2 Z
  refine zl hc f (t+1) (tk.set (v+1) true) _ ps oM oM b (by rw[List.length_set];exact hlen) (by rw[List.length_set];exact A) ?_ fun w hw=>?_
  ·rw[show t+1-1=t-1+1 by omega,List.take_add_one,List.take_add_one,List.take_set_of_le<|nR_ _,List.getElem?_set_self F,zk,he,hx]
  by_cases e:v=w
  ·subst e;exact G
  rw[List.getElem?_set_ne oM] at hw;have:=hk w hw;rw[show t+1-1=t-1+1 by omega,List.take_add_one];exact List.mem_append_left _ this
theorem w0 {l:List XC} {ps:List Int} (hc:cls.length=l.length+1) (h4:l.length<=4) (h:gQ cls l.length ps):ps∈gV l cls:=by
 refine zl hc l.length 1 _ _ ps (nR_ _) oM h (by simp) (by simp;omega) (by simp) fun v hv=>?_
 rw[List.getElem?_replicate] at hv;split at hv
 ·exact Bool.noConfusion (show false=true from hv)
 exact Bool.noConfusion (show false=true from hv)
theorem rG {l:List XC} {ps:List Int} (hc:cls.length=l.length+1) (h4:l.length<=4):ps∈gV l cls↔gQ cls l.length ps:=⟨(y7 hc h4).1 ps,w0 hc h4⟩
end
section
variable {g:XG} {p q p' q':Nat->Nat} {cls:List Int}
theorem Cs (id:cQ):jD p' (jD p id)=jD (fun i=>p' (p i)) id:=by
 obtain⟨th,k⟩:=id
 match th with
 | .ofNat 0=>rfl
 | .ofNat (t+1)=>rfl
 | .negSucc t=>rfl
theorem Cq (h:Pm g.threads.length p q) (h':Pm g.threads.length p' q'):gu p' q' (gu p q g)=gu (fun i=>p' (p i)) (fun j=>q (q' j)) g:=by
 have e1:(List.range (gu p q g).threads.length).map (fun j=>((gu p q g).threads[q' j]?).getD [])=(List.range g.threads.length).map (fun j=>(g.threads[q<|q' j]?).getD []):=by
  rw[gD];refine List.map_congr_left fun j hj=>?_
  have hj:=h'.Bk j (List.mem_range.1 hj);show(((List.range g.threads.length).map fun j=>(g.threads[q j]?).getD [])[q' j]?).getD []=_;rw[gM_,List.getElem?_range hj];rfl
 have e2:(List.range (gu p q g).threads.length).map (fun j=>(((gu p q g).from_[q' j]?).getD []).map (jD p'))=(List.range g.threads.length).map (fun j=>((g.from_[q<|q' j]?).getD []).map (jD fun i=>p' (p i))):=by
  rw[gD];refine List.map_congr_left fun j hj=>?_
  have hj:=h'.Bk j (List.mem_range.1 hj);show((((List.range g.threads.length).map fun j=>((g.from_[q j]?).getD []).map (jD p))[q' j]?).getD []).map (jD p')=_;rw[gM_,List.getElem?_range hj];show(((g.from_[q<|q' j]?).getD []).map<|jD p).map (jD p')=_;rw[List.map_map];exact List.map_congr_left fun x _=>Cs x
 have b:(g.order.map (·.map<|jD p)).map (·.map<|jD p')=g.order.map (·.map<|jD fun i=>p' (p i)):=by
  rw[List.map_map];refine List.map_congr_left fun r _=>?_
  show(r.map<|jD p).map (jD p')=_;rw[List.map_map];exact List.map_congr_left fun x _=>Cs x
 show(⟨g.init,_,_,(g.order.map (·.map<|jD p)).map (·.map<|jD p')⟩:XG)=_
 rw[e1,e2,b];rfl
theorem Pm.comp {n:Nat} (h:Pm n p q) (h':Pm n p' q'):Pm n (fun i=>p' (p i)) fun j=>q (q' j):=
 ⟨fun t b=>h'.lt _ (h.lt t b),fun t b=>h.Bk _ (h'.Bk t b),fun t b=>by rw[h'.qp _<|h.lt t b,h.qp t b],fun t b=>by rw[h.pq _<|h'.Bk t b,h'.pq t b]⟩
theorem Pm.self {n:Nat}:Pm n (fun i=>i) fun i=>i:=⟨fun _ h=>h,fun _ h=>h,fun _ _=>Z,fun _ _=>Z⟩
theorem HL (b:eb g) (h:Pm g.threads.length p q) (h':Pm g.threads.length p' q') (he:∀i,i<g.threads.length->p i=p' i):gu p q g=gu p' q' g:=by
 have hq:∀j,j<g.threads.length->q j=q' j:=fun j hj=>by
  have h1:=h'.Bk j hj;have u:p (q' j)=j:=by rw[he _ h1];exact h'.pq j hj
  have h3:=h.qp _ h1;rw[u] at h3;exact h3
 have hi:∀{id:cQ},uP g.threads.length id->jD p id=jD p' id:=fun {id} d=>by
  rcases d.case with ⟨k,rfl⟩ | ⟨t,k,A,rfl⟩
  ·rfl
  rw[sc,sc,he t A]
 have e1:(List.range g.threads.length).map (fun j=>(g.threads[q j]?).getD [])=(List.range g.threads.length).map (fun j=>(g.threads[q' j]?).getD []):=
  List.map_congr_left fun j hj=>by rw[hq j<|List.mem_range.1 hj]
 have e2:(List.range g.threads.length).map (fun j=>((g.from_[q j]?).getD []).map (jD p))=(List.range g.threads.length).map (fun j=>((g.from_[q' j]?).getD []).map (jD p')):=
  List.map_congr_left fun j hj=>by
   rw[hq j<|List.mem_range.1 hj];refine List.map_congr_left fun x hx=>?_
   obtain⟨f,hf⟩:=bZ (show q' j<g.from_.length by rw[b.from_];exact h'.Bk j<|List.mem_range.1 hj);rw[hf] at hx;exact hi<|rZ b hf hx
 have C:g.order.map (·.map<|jD p)=g.order.map (·.map<|jD p'):=
  List.map_congr_left fun r E=>by
   obtain⟨ln,m⟩:=gO_ E;exact List.map_congr_left fun x hx=>hi (iH b m hx)
 unfold gu;rw[e1,e2,C]
def fS (cls:List Int) (g x:XG):Prop:=∃p q:Nat->Nat,Pm g.threads.length p q/\(∀i,i<g.threads.length->cls[p i+1]? =cls[i+1]?)/\x=gu p q g
theorem fS.self (b:eb g):fS cls g g:=by
 refine⟨fun i=>i,fun i=>i,Pm.self,fun _ _=>Z,?_⟩;have h1:=Cp b (Pm.self (n:=g.threads.length));rw[Cq Pm.self Pm.self] at h1;exact h1.symm
theorem fS.len {x:XG} (h:fS cls g x):x.threads.length=g.threads.length:=by
 obtain⟨p,q,_,_,rfl⟩:=h;exact gD
theorem fS.right {x:XG} (b:eb g) (h:fS cls g x):eb x:=by
 obtain⟨p,q,h1,_,rfl⟩:=h;exact yW b h1
theorem fS.Ik {x:XG} (b:eb g) (h:fS cls g x):fS cls x g:=by
 obtain⟨p,q,h1,d,rfl⟩:=h;refine⟨q,p,by rw[gD];exact h1.Ik,fun i hi=>?_,(Cp b h1).symm⟩;rw[gD] at hi;have:=d _ (h1.Bk i hi);rw[h1.pq i hi] at this;exact this.symm
theorem fS.next {x y:XG} (h:fS cls g x) (h':fS cls x y):fS cls g y:=by
 obtain⟨p,q,h1,m,rfl⟩:=h;obtain⟨p',q',b,d,rfl⟩:=h';rw[gD] at b d;exact⟨_,_,h1.comp b,fun i hi=>by rw[d _<|h1.lt i hi,m i hi],Cq h1 b⟩
theorem fS.same {x:XG} (b:eb g) (h:fS cls g x) (y:XG):fS cls g y↔fS cls x y:=⟨fun k=>(h.Ik b).next k,fun k=>h.next k⟩
theorem fS.of {ps:List Int} (h:gQ cls g.threads.length ps):∃p q:Nat->Nat,Pm g.threads.length p q/\(∀i,i<g.threads.length->ps[i]? =some (.ofNat (p i+1)))/\fS cls g (gu p q g):=by
 obtain⟨p,q,h1,b,d⟩:=h.pm;exact⟨p,q,h1,b,p,q,h1,d,Z⟩
theorem HW (hc:∀i,i<g.threads.length->cls[p i+1]? =cls[i+1]?) (h:Pm g.threads.length p q):gQ cls g.threads.length ((List.range g.threads.length).map fun i=>Int.ofNat (p i+1)):=by
 refine⟨by simp,?_,fun i x hx=>?_⟩
 ·refine List.pairwise_map.2<|List.nodup_range.imp_of_mem fun {a b} m hb hne e=>hne ?_;have e:p a=p b:=by have:=iJ_ e;omega
  have h1:=h.qp a (List.mem_range.1 m);rw[e,h.qp b<|List.mem_range.1 hb] at h1;exact h1.symm
 rw[gM_] at hx;obtain⟨j,hj,rfl⟩:=oM_.1 hx;obtain⟨hl,d⟩:=gA.1 hj;rw[List.getElem_range] at d;subst d;have hi:i<g.threads.length:=by simpa using hl
 exact⟨p i,Z,h.lt i hi,hc i hi⟩
theorem fS.told {x:XG} {l:List XC} (m:eb g) (hl:l.length=g.threads.length) (hc:cls.length=l.length+1):fS cls g x↔∃ps∈gV l cls,∃p q:Nat->Nat,Pm g.threads.length p q/\(∀i,i<g.threads.length->ps[i]? =some (.ofNat (p i+1)))/\x=gu p q g:=by
 have h4:l.length<=4:=by rw[hl];exact m.threads
 constructor
 ·rintro ⟨p,q,h1,b,u⟩;have hp:=HW (cls:=cls) b h1;rw[<-hl] at hp;refine⟨_,w0 hc h4 hp,p,q,h1,fun i hi=>?_,u⟩;rw[gM_,hl,List.getElem?_range hi];rfl
 rintro ⟨ps,d,p,q,h1,b,rfl⟩;have hp:=(rG hc h4).1 d;rw[hl] at hp;refine⟨p,q,h1,fun i hi=>?_,Z⟩;obtain⟨v,e,_,hv⟩:=hp.at_ i _ (b i hi);have:p i=v:=by have:=iJ_ e;omega
 rw[this];exact hv
end
section
variable {g:XG} {cls:List Int} {l:List XC}
def pF (ps:List Int) (i:Nat):Nat:=((ps[i]?).getD 0).toNat-1
def qF (ps:List Int) (j:Nat):Nat:=(fx (fun x=>bM x (.ofNat (j+1))) ps 0).toNat
def JU (ps:List Int) (g:XG):XG:=gu (pF ps) (qF ps) g
theorem nQ {n:Nat} {ps:List Int} (h:gQ cls n ps):Pm n (pF ps) (qF ps)/\∀i,i<n->ps[i]? =some (.ofNat (pF ps i+1)):=by
 obtain⟨p,q,h1,d,_⟩:=h.pm;have hp:∀i,i<n->pF ps i=p i:=fun i hi=>by unfold pF;rw[d i hi];rfl
 have hq:∀j,j<n->qF ps j=q j:=fun j hj=>by
  unfold qF;have h3:=d _ (h1.Bk j hj);rw[h1.pq j hj] at h3
  have:=F6 (p:=fun x=>bM x (.ofNat (j+1))) (l:=ps) (i:=0) h3 (ey _) fun k y hk hy=>by
   cases he:bM y (.ofNat (j+1)) with
   | false=>rfl
   | true=>
    rw[dv] at he;have he:y= .ofNat (j+1):=of_decide_eq_true he;subst he;have:=(List.getElem?_inj (gA.1 hy).1 h.nd).1 (hy.trans h3.symm);omega
  rw[this,nA_];rfl
 refine⟨⟨fun t b=>by rw[hp t b];exact h1.lt t b,fun t b=>by rw[hq t b];exact h1.Bk t b,fun t b=>by rw[hp t b,hq _<|h1.lt t b];exact h1.qp t b,fun t b=>by rw[hq t b,hp _<|h1.Bk t b];exact h1.pq t b⟩,fun i hi=>by rw[hp i hi];exact d i hi⟩
theorem OO (b:eb g) {ps:List Int} {p q:Nat->Nat} (h:gQ cls g.threads.length ps) (h1:Pm g.threads.length p q) (d:∀i,i<g.threads.length->ps[i]? =some (.ofNat (p i+1))):gu p q g=JU ps g:=by
 obtain⟨m,u⟩:=nQ h;refine HL b h1 m fun i hi=>?_
 have:=(d i hi).symm.trans (u i hi);have:=iJ_ (Option.some.inj this);omega
def sf (l:List XC) (cls:List Int) (g:XG):List XG:=fT dQ ((gV l cls).map fun ps=>JU ps g)
structure og (l:List XC) (cls:List Int) (g:XG):Prop where
 right:eb g
 len:l.length=g.threads.length
 cls:cls.length=l.length+1
theorem si (h:og l cls g) {x:XG}:x∈sf l cls g↔fS cls g x:=by
 unfold sf;rw[(sy ru fun _ _=>trivial).2,List.mem_map,fS.told h.right h.len h.cls]
 have d:∀ps∈gV l cls,gQ cls g.threads.length ps:=fun ps b=>by
  have:=(rG h.cls (by rw[h.len];exact h.right.threads)).1 b;rwa[h.len] at this
 constructor
 ·rintro ⟨ps,b,rfl⟩;obtain⟨m,u⟩:=nQ (d ps b);exact⟨ps,b,pF ps,qF ps,m,u,Z⟩
 rintro ⟨ps,b,p,q,h1,A,rfl⟩;exact⟨ps,b,(OO h.right (d ps b) h1 A).symm⟩
theorem CF:vA dQ (sf l cls g):=(sy ru fun _ _=>trivial).1
theorem og.next (h:og l cls g) {x:XG} (hx:fS cls g x):og l cls x:=⟨hx.right h.right,by rw[hx.len];exact h.len,h.cls⟩
theorem Ke (h:og l cls g) {x:XG} (hx:fS cls g x):sf l cls x=sf l cls g:=
 l8 ru (fun _ _=>trivial) (fun _ _=>trivial) CF CF fun y=>by rw[si<|h.next hx,si h,hx.same h.right]
theorem Kf (h:og l cls g):g∈sf l cls g:=(si h).2 (fS.self h.right)
theorem wU (h:og l cls g):∃x r,sf l cls g=x::r:=by
 cases b:sf l cls g with
 | nil=>have:=Kf h;rw[b] at this;cases this
 | cons x r=>exact⟨x,r,Z⟩
end
end Go.Ev
end
