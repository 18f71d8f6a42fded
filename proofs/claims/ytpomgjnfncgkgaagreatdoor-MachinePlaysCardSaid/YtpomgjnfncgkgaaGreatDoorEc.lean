/- Part of the proof: an evaluator of the model's code, rules for walks on it, walks. Without conditions. -/
import Derived.Test.YtpomgjnfncgkgaaGreatDoorEb
import Derived.Test.YtpomgjnfncgkgaaGreatDoorProg
import Derived.KernelRfl
set_option linter.unusedSectionVars false
set_option linter.unusedVariables false
set_option linter.unusedSimpArgs false
noncomputable section
namespace Go.Ev
variable [Env]
def cN {α:Type} (m E:Nat) (R:α->List V->Prop) (l:List α) (u:V) (M:Own):Prop:=
 (l= []/\u= .au/\M= [])∨∃(b:Nat) (c:qf) (cells:List V) (e:Nat),u= .slice b 0 l.length c/\M= [(b,.row cells e false)]/\cells.length=l.length*m/\(∀(i:Nat) (x:α),l[i]?=some x->R x ((cells.drop (i*m)).take m))/\(c= .known l.length∨(c= .upto m/\e=E))/\l.length<=1048576
inductive fV {α:Type} (m E:Nat) (R:α->List V->Prop):List (List α)->List V->Own->Prop
 | nil:fV m E R [] [] []
 | snoc {ls:List (List α)} {us:List V} {M M1:Own} {l:List α} {u:V}:fV m E R ls us M->cN m E R l u M1->fV m E R (ls++[l]) (us++[u]) (M1++M)
section
variable {α:Type} {m E:Nat} {R:α->List V->Prop} {l:List α} {u:V} {M:Own} {K:H} {ls:List (List α)} {us:List V}
theorem cN.leaf (h:cN m E R l u M):cW u=some [u]/\jb u=true:=by
 rcases h with ⟨_,rfl,_⟩ | ⟨b,c,cells,e,rfl,_⟩<;>exact⟨rfl,rfl⟩
theorem cN.iB (h:cN m E R l u M) (hk:∀e∈M,K e.1 e.2):bJ K m R l u:=by
 rcases h with ⟨h1,z,_⟩ | ⟨b,c,cells,e,rfl,rfl,h3,h4,h5,h6⟩
 ·exact .inl ⟨h1,z⟩
 refine .inr ⟨b,0,c,cells,e,false,Z,?_,hk _<|mS_ ..,by omega,by omega,fun i x hx=>by simp_all⟩;rcases h5 with h5 | h5
 ·exact .inr ⟨_,h5,nR_ _⟩
 exact .inl h5.1
theorem fV.length (h:fV m E R ls us M):us.length=ls.length:=by
 induction h with
 | nil=>rfl
 | snoc _ _ ih=>simp[ih]
theorem fV.at (h:fV m E R ls us M):∀{i:Nat} {l:List α},ls[i]?=some l->∃u M1 A B_,us[i]?=some u/\cN m E R l u M1/\M=A++(M1++B_)/\∀l' u' z,cN m E R l' u' z->fV m E R (ls.set i l') (us.set i u') (A++(z++B_)):=by
 induction h with
 | nil=>simp_all
 | @snoc ls us M M1 l u h h1 ih=>
  intro i x hx;have hl:=h.length
  by_cases hi:i<ls.length
  ·rw[gL_ hi] at hx;obtain⟨C,F,A,B_,k1,k2,rfl,W⟩:=ih hx;refine⟨C,F,M1++A,B_,by grind,k2,by simp,fun l' u' M' h'=>?_⟩;rw[List.set_append_left _ _ hi,List.set_append_left _ _ B,lQ_];exact .snoc (W l' u' M' h') h1
  have hlt:=(gA.1 hx).1;rw[lA_,List.length_singleton] at hlt;obtain rfl:i=ls.length:=by omega
  rw[gR_<|nR_ _,Nat.sub_self] at hx;simp only[List.getElem?_cons_zero,oJ_] at hx;subst hx;refine⟨u,M1,[],M,by simp_all,h1,Z,fun l' u' M' h'=>?_⟩;rw[List.set_append_right _ _<|nR_ _,List.set_append_right _ _ B,hl,Nat.sub_self];exact fV.snoc (M1:=M') (M:=M) h h'
theorem fV.each (h:fV m E R ls us M) (hk:∀e∈M,K e.1 e.2):∀(i:Nat) (l:List α),ls[i]?=some l->∃u,us[i]?=some u/\bJ K m R l u:=by
 intro i l hl;obtain⟨u,M1,A,B_,h1,z,rfl,_⟩:=h.at hl;exact⟨u,h1,z.iB fun e he=>hk e (by simp[he])⟩
theorem fV.iB (h:fV m E R ls us M) (hk:∀e∈M,K e.1 e.2) {b e n:Nat} (hb:K b (.row us e false)) (z:n=ls.length) (hl:ls.length<=1048576):bJ K 1 (RL K m R) ls (.slice b 0 n (.known n)):=by
 subst z;refine .inr ⟨b,0,_,us,e,false,Z,.inr ⟨_,Z,nR_ _⟩,hb,by rw[h.length];omega,by omega,fun i x hx=>?_⟩;obtain⟨u,h1,A⟩:=h.each hk i x hx;refine⟨u,?_,A⟩;obtain⟨aa,rfl⟩:=gA.1 h1
 grind [List.drop_eq_getElem_cons]
end
section
variable {U:I} {K:H} {L M:Own} {b:Nat} {o:cM}
theorem J.JG (h:J U K (M++(b,o)::L)):U.m.get b=some o:=(h.own (b,o) (by simp)).2
theorem J.Fw (h:J U K (M++(b,o)::L)) (o':cM):J (U.setObj b o') K (M++(b,o')::L):=((h.perm List.perm_middle).pP o').perm List.perm_middle.symm
theorem ey (v:V):∀n,fq [v] n=List.replicate n v
 | 0=>rfl
 | n+1=>by
  show im [v] (fq [v] n)=_;rw[dV,ey v n];rfl
theorem GU {us:List V} {u v:V} {n i:Nat} (hu:us.length=i) (hi:i<n):dI [u] (us++List.replicate (n-i) v) (0+i*1)=(us++[u])++List.replicate (n-(i+1)) v:=by
 obtain⟨k,hk⟩:∃k,n-i=k+1:=⟨n-i-1,by omega⟩;rw[hk,show n-(i+1)=k by omega,show 0+i*1=us.length by omega,oN _ _ _ (by simp),List.take_left,List.length_singleton,<-List.drop_drop,List.drop_left,List.replicate_succ];rfl
end
section
variable {P:Program} {G:Cx} {ev:Operand->Option V} {U:I}
theorem gj {t e w n:Nat} {k k':IntKind} {z:List V} {lo co:Operand} (C:P.underlying t=some (.slice e)) (hw:(P.info? e).map (·.bytes)=some w) (F:(fJ P e).bind cW=some z)
  (A:((P.info? e).any fun j=>Nat.beq (cY z) j.size && Nat.ble 1 j.size)=true) (hl:ev lo=some (.int k (.ofNat n))) (hc:ev co=some (.int k' (.ofNat n))) (hn:w*n<=1048576) (aa:n<=1048576):
  dX P G ev U (.makeSlice t lo co)= .val (.slice U.next 0 n (.known n)) (U.alloc (.row (fq z n) e false)):=by
 refine uc (mk:=.slice n n) Z ?_;obtain⟨j,hj,rfl⟩:=oM_.1 hw;rw[hj] at A;simp only[Option.any_some,bA_] at A;simp only[fO,C,hl,hc,hj,F];rw[A.1,A.2,show Nat.ble n n=true by simp_all,show Nat.ble (j.bytes*n) 1048576=true by simp_all,show Nat.ble n 1048576=true by simp_all];rfl
end
theorem cz.leaf:∀x vs,cz x vs->cF vs=true:=fun _ _ h=>by cases h;rfl
theorem ji.leaf:∀x vs,ji x vs->cF vs=true:=fun _ _ h=>by cases h;rfl
theorem jz.leaf:∀x vs,jz x vs->cF vs=true:=fun _ _ h=>by cases h;rfl
end Go.Ev
namespace Go.Ev
variable [Env]
inductive nN (b:Nat) (o':cM):Own->Own->Prop
 | here {o:cM} {L:Own}:nN b o' ((b,o)::L) ((b,o')::L)
 | there {x:Nat×cM} {L L':Own}:nN b o' L L'->nN b o' (x::L) (x::L')
 | cH {M L L':Own}:nN b o' L L'->nN b o' (M++L) (M++L')
section
variable {U:I} {K:H} {L L':Own} {b:Nat} {o':cM}
theorem nN.Ru (h:nN b o' L L'):∃A B_ o,L=A++(b,o)::B_/\L'=A++(b,o')::B_:=by
 induction h with
 | here=>exact⟨[],_,_,Z,Z⟩
 | @there x L L' h ih=>grind
 | @cH M L L' h ih=>grind
theorem J.Ra (h:J U K L) (hu:nN b o' L L'):J (U.setObj b o') K L':=by
 obtain⟨A,B_,o,rfl,rfl⟩:=hu.Ru;exact h.Fw o'
theorem J.sub (h:J U K L) (z:L'.Sublist L):J U K L' where
 kept b o hb:=let ⟨h1,A,C⟩:=h.kept b o hb;⟨h1,A,fun e he=>C e (z.subset he)⟩
 own e he:=h.own e (z.subset he)
 ne:=h.ne.sublist z
theorem dw {M L L':Own} (h:L'.Sublist L):(M++L').Sublist (M++L):=(List.append_sublist_append_left M).2 h
end
section
variable {P:Program} {G:Cx} {n:Nat} {t:PT V} {U:I} {K:H} {L:Own} {Q:Ex->PT V->I->Prop} {ops:Array Oper} {o:Oper} {l:List Oper} {i:Nat} {rc:List Nat} {lp:List (Nat×List Nat)}
theorem cw {b:Nat} {ob':cM} {L':Own} {t':PT V} (z:J U K L) (hu:nN b ob' L L') (hw:bS ops t o=some true) (hv:dX P G (bI G t) U o.op= .skip (U.setObj b ob')) (hp:dG t n o.dst unit=some t')
  (h:∀U',J U' K L'->bV P G ops n l t' U' Q):bV P G ops n (o::l) t U Q:=iR hw hv hp (h _<|z.Ra hu)
theorem fC {b:Nat} {ob':cM} {L':Own} {t':PT V} (A:J U K L) (hu:nN b ob' L L') (z:ops[i]?=some o) (hw:bS ops t o=some true) (hv:dX P G (bI G t) U o.op= .skip (U.setObj b ob')) (hp:dG t n o.dst unit=some t')
  (h:∀U',J U' K L'->(dk P G ops t' U' rc=true/\cG P G ops n lp t' U' Q)):cG P G ops n ((i,rc)::lp) t U Q:=pr z hw hv hp (h _<|A.Ra hu)
end
section
variable {P:Program} {t:PT V} {U:I}
theorem zf {fn:Func} {j ty b m e:Nat} {ro:Bool} {cells:List V} (A:fn.results.toList= [.cell j ty]) (h1:t.get j=some (.ptr b 0)) (hm:U.m.get b=some (.row cells e ro)) (C:dO P ty=some (some m)) (z:cells.length=m):fg P fn t U=some (.agg cells):=by
 unfold fg;rw[A]
 have e1:fS P t U (.cell j ty)=some (V.agg cells):=by
  show(match t.get (posOf j) with
   | some (.ptr b off)=>match U.m.get b with
    | some (.row cells _ _)=>match dO P ty with
     | some (some n)=>bif Nat.ble (off+n) (cY cells) then some (V.agg<|takeN (dP cells off) n) else none
     | some none=>nth cells off
     | none=>none
    | _=>none
   | _=>none)=_
  rw[show t.get (posOf j)=some (.ptr b 0) from h1];dsimp only;rw[hm];dsimp only;rw[C];dsimp only;rw[bP,z,nA_,show Nat.ble m m=true by simp_all,dn,dM,List.drop_zero,<-z,List.take_length];rfl
 have:cU (fS P t U) [.cell j ty]=some [V.agg cells]:=by
  unfold cU;simp only[e1]
 rw[this]
theorem eW {fn:Func} {R:V->I->Prop} {j ty b m e:Nat} {ro:Bool} {cells:List V} (z:fn.results.toList= [.cell j ty]) (h1:t.get j=some (.ptr b 0)) (hm:U.m.get b=some (.row cells e ro)) (A:dO P ty=some (some m)) (C:cells.length=m) (F:R (.agg cells) U):AO P fn R .ret t U:=
 ⟨.inr Z,_,zf z h1 hm A C,F⟩
end
end Go.Ev
namespace Go.Ev
variable [Env]
theorem qJ {α:Type} {m E:Nat} {R:α->List V->Prop} {l1 l2:List α} {fY news:List V} {b e:Nat} {c:qf} {n:Nat} (aa:fY.length=l1.length*m) (h1:∀(i:Nat) (x:α),l1[i]?=some x->R x ((fY.drop (i*m)).take m)) (ab:news.length=l2.length*m) (h2:∀(i:Nat) (x:α),l2[i]?=some x->R x ((news.drop (i*m)).take m))
  (z:n=l1.length+l2.length) (hc:c= .known n∨(c= .upto m/\e=E)) (hle:n<=1048576):cN m E R (l1++l2) (.slice b 0 n c) [(b,.row (fY++news) e false)]:=by
 subst z;refine .inr ⟨b,c,_,e,by simp_all,Z,by grind,fun i x hx=>?_,by simp_all,by simp_all⟩
 by_cases hi:i<l1.length
 ·rw[gL_ hi] at hx;have hle:(i+1)*m<=l1.length*m:=nM_ _ hi
  grind
 grind [nM_,List.drop_append,List.drop_eq_nil_of_le,Nat.sub_mul]
def cC (g:XG) (loc:Int):List dy:=
 bif D (cu g) 0 then(bif bR loc 0 then [] else match g.order[loc.toNat]? with | some l=>⟨0,loc⟩::l | none=>[]) else []
theorem pU {g:XG} {loc:Int} (h:D (cu g) 0=false):cC g loc= []:=by unfold cC;rw[h];rfl
theorem ra {g:XG} {loc:Int} (h:bR loc 0=true):cC g loc= []:=by unfold cC;simp_all
theorem q8 {g:XG} {loc:Nat} (h:g.order.length<=loc):cC g (.ofNat loc)= []:=by
 unfold cC
 simp_all
theorem eG {g:XG} {loc:Nat} {l:List dy} (hc:D (cu g) 0=true) (h:g.order[loc]?=some l):cC g (.ofNat loc)=⟨0,.ofNat loc⟩::l:=by
 have e:(Int.ofNat loc).toNat=loc:=rfl;have e2:bR (.ofNat loc) 0=false:=by rw[show(0:Int)= .ofNat 0 from Z,mn];simp
 unfold cC
 simp_all
end Go.Ev
namespace Go.Ev
variable [Env]
section
variable {P:Program} {G:Cx}
def vT (P:Program) (G:Cx) (f:Nat) (args:List V) (U:I) (R:V->I->Prop):Prop:=
 ∃(K:Nat) (v:V) (U':I),(∀k,K<=k->lG P G (eB P G k) f args U= .ret v U')/\R v U'
theorem CD {f:Nat} {fn:Func} {c:Code} {args:List V} {U:I} {R:V->I->Prop} {t:PT V} (hf:P.funcs[f]?=some fn) (hb:fn.body=some c) (u:r6 fn.ntmps args=some t)
  (h:Ev P G c fn.ntmps t U (AO P fn R)):vT P G f args U R:=by
 obtain⟨K,e,t',U',h1,he,v,h2,z⟩:=h;refine⟨K,v,U',fun k hk=>?_,z⟩;unfold lG;rw[hf];dsimp only;rw[hb,u];dsimp only;rw[h1 k hk];rcases he with rfl | rfl<;>
 ·dsimp only;unfold y7;rw[show xK P G (eB P G k) [] .ret U'=some (.ret,U') from Z]
  simp_all
theorem F8 {f:Nat} {args:List V} {U:I} {k:Nat} (ab:G.II f args U=none) (ac:G.IL f args=none) (aa:G.stop f args U=none) (ae:G.fk f=true):
  mN P G (eB P G k) f args U=sS (qx P G (eB P G k) f args U):=by
 grind [mN]
theorem tk {f:Nat} {args:List V} {U:I} {R:V->I->Prop} (u:Plain G) (z:G.fk f=true) (he:∀ih,qx P G ih f args U=lG P G ih f args U) (h:vT P G f args U R) (hl:Fc f=false:=by rfl):bm P G f args U R:=by
 obtain⟨K,v,U',h1,A⟩:=h;refine⟨K,v,U',fun k hk=>?_,A⟩;rw[F8 (u.h1 _ _ _) (u.h2 _ _ hl) (u.h4 _ _ _) z,he,h1 k hk];rfl
theorem pq:∀(l:List Int),lk (ints l) (ints l)=true
 | []=>rfl
 | x::l=>by
  show(bif (s7 .i64 .i64 && D x x) then lk (ints l) (ints l) else false)=true;rw[pq l,dE];simp[s7]
theorem oZ:∀(l:List Int),eO (ints l)=true
 | []=>rfl
 | x::l=>by
  show(bif nC (.int .i64 x) then eO (ints l) else false)=true;rw[oZ l];rfl
theorem vD:∀(l:List Int),(ints l).length=l.length
 | []=>rfl
 | x::l=>by show(ints l).length+1=l.length+1;rw[vD l]
theorem xu {vb ve e sz z n1:Nat} {vc rs:List Int} {c:qf} {A:I} {u:List V} {ok:qf->Nat->Bool} (C:ok c n1=true) (aa:z≠vb) (h1:A.m.get z=some (.row u e false)) (E:A.m.get vb=some (.row (ints vc) ve false)) (ab:1<=n1) (hl:n1*sz<=u.length) (F:u.take (n1*sz)=ints rs):
  rv vb (ints vc) ve e sz (.ret (.slice z 0 n1 c) A) ok=some (n1,ints rs):=by
 have K:kA z vb=false:=by
  grind [kA,nB]
 unfold rv;dsimp only;rw[h1,E];dsimp only;rw[C,K,pq,Nat.beq_refl,Nat.beq_refl,show Nat.ble 1 n1=true by simp_all,bP,nA_,show Nat.ble (n1*sz) u.length=true by simp_all,dn,dM,List.drop_zero,F,oZ];rfl
theorem Jv {f:Nat} {U:I} {R:V->I->Prop} (C:Plain G) (E:G.fk f=true) {b n sz i vb mc e ve:Nat} {cells:List V} {vc rs:List Int} {n1:Nat} (hn:1<=n) (hi:i<n) (aa:b≠vb) (hb:U.m.get b=some (.row cells e false)) (F:U.m.get vb=some (.row (ints vc) ve false)) (hc:n*sz<=cells.length)
  (A:1<=n1) (ab:rs.length=n1*sz)
  (h1:vT P G f [.slice b 0 n (.known n),.int .i64 (.ofNat i),.slice vb 0 1 (.known mc)] (ft U b (.row cells e false) vb (.row (ints vc) ve false)) fun v U'=>∃z u,v= .slice z 0 n1 (.upto sz)/\z≠vb/\U'.m.get z=some (.row u e false)/\U'.m.get vb=some (.row (ints vc) ve false)/\n1*sz<=u.length/\u.take (n1*sz)=ints rs)
  (L:vT P G f [.slice b 0 n (.least (Nat.succ n) sz),.int .i64 (.ofNat i),.slice vb 0 1 (.known mc)] (ft U b (.row (cells.take (n*sz)++List.replicate sz .any) e false) vb (.row (ints vc) ve false)) fun v U'=>∃z a u,v= .slice z 0 n1 (.least a sz)/\n1<=a/\z≠vb/\U'.m.get z=some (.row u e false)/\U'.m.get vb=some (.row (ints vc) ve false)/\n1*sz<=u.length/\u.take (n1*sz)=ints rs)
  (M:R (.slice U.next 0 n1 (.upto sz)) ((U.drop b).alloc (.row (ints rs) e false))) (hl:Fc f=false:=by rfl):bm P G f [.slice b 0 n (.upto sz),.int .i64 (.ofNat i),.slice vb 0 1 (.known mc)] U R:=by
 obtain⟨Q,v1,σ1,W,z,u,rfl,g1,X,g3,g4,g5⟩:=h1;obtain⟨K2,v2,σ2,k2,b2,a,ac,rfl,f0,f1,f2,f3,f4,f5⟩:=L;refine⟨max Q K2,_,_,fun k hk=>?_,M⟩;rw[F8 (C.h1 _ _ _) (C.h2 _ _ hl) (C.h4 _ _ _) E]
 have e:qx P G (eB P G k) f [.slice b 0 n (.upto sz),.int .i64 (.ofNat i),.slice vb 0 1 (.known mc)] U= .ret (.slice U.next 0 n1 (.upto sz)) ((U.drop b).alloc (.row (ints rs) e false)):=by
  have K:atEnd [.slice b 0 n (.upto sz),.int .i64 (.ofNat i),.slice vb 0 1 (.known mc)]=false:=by
   show Nat.beq i n=false
   grind [nB]
  have hs:kA b vb=false:=by
   grind [kA,nB]
  unfold qx;rw[K];simp only[cond_false];unfold Gj;dsimp only;rw[hb,F];dsimp only;rw[hs,show Nat.ble 1 n=true by simp_all,show nC (.int .i64 (.ofNat i))=true from Z,oZ,bP,nA_,show Nat.ble (n*sz) cells.length=true by simp_all];rw[dV,dn,tL,W k B,k2 k B];rw[xu (by show Nat.beq sz sz=true;exact Nat.beq_refl _) g1 X g3 A g4 g5,xu (by show(Nat.beq sz sz && Nat.ble n1 a)=true;simp_all) f1 f2 f3 A f4 f5]
  grind [Nat.beq_refl,pq]
 rw[e];rfl
end
def df (l:List dy):List V:=l.flatMap fun x=>ints x.ints
theorem gx (x:dy) (l:List dy):df (x::l)=ints x.ints++df l:=rfl
theorem sH (l r:List dy):df (l++r)=df l++df r:=List.flatMap_append
theorem eh:∀(l:List dy),(df l).length=l.length*2
 | []=>rfl
 | x::l=>by
  rw[gx,lA_,eh l,List.length_cons];show 2+_=_;omega
theorem qj:∀(l:List dy) (i:Nat),(df l).drop (i*2)=df (l.drop i)
 | l,0=>by simp
 | [],i+1=>by simp[df]
 | x::l,i+1=>by
  rw[List.drop_succ_cons,<-qj l i,gx,show(i+1)*2=(ints x.ints).length+i*2 by show _=2+_;omega,<-List.drop_drop,List.drop_left]
theorem vm:∀(l:List dy) (i:Nat),(df l).take (i*2)=df (l.take i)
 | l,0=>by simp[df]
 | [],i+1=>by simp[df]
 | x::l,i+1=>by
  rw[List.take_succ_cons,gx,gx,<-vm l i,show(i+1)*2=(ints x.ints).length+i*2 by show _=2+_;omega,List.take_length_add_append]
theorem l6:∀(l:List Int),cF (ints l)=true
 | []=>rfl
 | x::l=>N Z (l6 l)
theorem nw (l:List dy):df l=ints (l.flatMap dy.ints):=by
 induction l with
 | nil=>rfl
 | cons x l ih=>rw[gx,ih,List.flatMap_cons];simp[ints]
theorem vk (l:List dy):cF (df l)=true:=by rw[nw];exact l6 _
theorem zt:∀(l:List dy) (cells:List V),cells.length=l.length*2->(∀(i:Nat) (x:dy),l[i]?=some x->jz x ((cells.drop (i*2)).take 2))->cells=df l
 | [],cells,h,_=>eN_ h
 | x::l,cells,h,u=>by
  rw[List.length_cons] at h;have h0:cells.take 2=ints x.ints:=by have:=u 0 x Z;simpa [jz] using this
  rw[gx,<-h0,<-zt l (cells.drop 2) (by rw[lD_];omega) (fun i y hy=>by have:=u (i+1) y (by simpa using hy);rwa[show(i+1)*2=2+i*2 by omega,<-List.drop_drop] at this),List.take_append_drop]
theorem Hu {l:List dy} {i:Nat} {x:dy} (h:l[i]?=some x):jz x (((df l).drop (i*2)).take 2):=by
 rw[qj,cO h,gx,show(2:Nat)=(ints x.ints).length from Z,List.take_left];rfl
theorem uR {A X Zv:List V} {off:Nat} (ho:off=A.length) (hz:X.length<=Zv.length):dI X (A++Zv) off=A++(X++Zv.drop X.length):=by
 grind [oN,List.drop_drop,List.drop_left]
theorem Gp {A X B_ Zv:List V} {off:Nat} (ho:off=A.length+X.length) (hz:Zv.length=B_.length):dI B_ (A++(X++Zv)) off=A++(X++B_):=by
 grind [uR]
theorem Mn {A X B_ C:List V} {off:Nat} (ho:off=A.length) (hc:X.length=C.length):dI X (A++(C++B_)) off=A++(X++B_):=by
 grind [uR]
section
variable {P:Program} {G:Cx} {ev:Operand->Option V} {U:I}
theorem lQ {lo:Operand} {k:IntKind} {l len cap:Nat} (h:ev lo=some (.int k (.ofNat l))) (hl:l<=len):dc ev len cap (some lo) none=some (l,len):=by
 simp only[dc,fl,h,show Nat.ble l len=true by simp_all,cond_true]
theorem pf {hi:Operand} {k:IntKind} {h' len cap:Nat} (h:ev hi=some (.int k (.ofNat h'))) (hl:h'<=cap):dc ev len cap none (some hi)=some (0,h'):=by
 simp only[dc,fl,h,show Nat.ble h' cap=true by simp_all,cond_true]
theorem yR {t e sz b off len cap l h:Nat} {x:Operand} {lo hi:Option Operand} (z:P.underlying t=some (.slice e)) (hj:(P.info? e).map (·.size)=some sz) (hx:ev x=some (.slice b off len (.known cap))) (hb:dc ev len cap lo hi=some (l,h)) (hl:l<cap):
  dX P G ev U (.slice t x lo hi none)= .val (.slice b (off+l*sz) (h-l) (.known (cap-l))) U:=by
 refine bf Z ?_;obtain⟨j,u,rfl⟩:=oM_.1 hj
 have:Nat.beq cap l=false:=by
  grind [nB]
 simp only[di,fD,z,hx,cutAt,hb,cut,u,this,cond_false]
theorem Lk {t e sz b off cap:Nat} {k:IntKind} {x lo:Operand} (z:P.underlying t=some (.slice e)) (hj:(P.info? e).map (·.size)=some sz) (hx:ev x=some (.slice b off cap (.known cap))) (hb:ev lo=some (.int k (.ofNat cap))):
  dX P G ev U (.slice t x (some lo) none none)= .val (.slice b off 0 (.known 0)) U:=by
 refine bf Z ?_;obtain⟨j,u,rfl⟩:=oM_.1 hj;have:Nat.beq cap cap=true:=Nat.beq_refl cap;simp only[di,fD,z,hx,cutAt,lQ hb<|nR_ cap,cut,u,this,cond_true,Nat.sub_self]
theorem Ll {t e sz:Nat} {k:IntKind} {x lo:Operand} (z:P.underlying t=some (.slice e)) (hj:(P.info? e).map (·.size)=some sz) (hx:ev x=some .au) (hb:ev lo=some (.int k (.ofNat 0))):
  dX P G ev U (.slice t x (some lo) none none)= .val .au U:=by
 refine bf Z ?_;obtain⟨j,u,rfl⟩:=oM_.1 hj;simp only[di,fD,z,hx,lQ hb<|nR_ 0,u]
theorem yS {t e sz b off len l h:Nat} {x:Operand} {lo hi:Option Operand} (z:P.underlying t=some (.slice e)) (hj:(P.info? e).map (·.size)=some sz) (hx:ev x=some (.slice b off len (.upto sz))) (hb:dc ev len len lo hi=some (l,h)):
  dX P G ev U (.slice t x lo hi none)= .val (.slice b (off+l*sz) (h-l) (.upto sz)) U:=by
 refine bf Z ?_;obtain⟨j,u,rfl⟩:=oM_.1 hj;simp only[di,fD,z,hx,hb,u,Nat.beq_refl,cond_true]
theorem oW {t e sz b off len a l h:Nat} {x:Operand} {lo hi:Option Operand} (z:P.underlying t=some (.slice e)) (hj:(P.info? e).map (·.size)=some sz) (hx:ev x=some (.slice b off len (.least a sz))) (hb:dc ev len a lo hi=some (l,h)) (h1:len<=a) (h2:l+1<=a):
  dX P G ev U (.slice t x lo hi none)= .val (.slice b (off+l*sz) (h-l) (.least (a-l) sz)) U:=by
 refine bf Z ?_;obtain⟨j,u,rfl⟩:=oM_.1 hj;simp only[di,fD,z,hx,hb,u,Nat.beq_refl,show Nat.ble len a=true by simp_all,show Nat.ble (Nat.succ l) a=true by simp_all,Bool.and_self,cond_true]
theorem wv {b off len sz e:Nat} {c:qf} {ro:Bool} {cells:List V} (hb:U.m.get b=some (.row cells e ro)) (hl:off+len*sz<=cells.length):lq U sz (.slice b off len c)=some (len,(cells.drop off).take (len*sz)):=by
 simp only[lq,hb,bP,show Nat.ble (off+len*sz) cells.length=true by simp_all,cond_true,dn,dM]
theorem BU {cl:Call} {ds so:Operand} {ty e sz b off len n Ew e':Nat} {c:qf} {v:V} {news cells cells':List V} (hc:cl.callee= .builtin .copy) (C:cl.args.toList= [ds,so]) (E:cl.argTypes[0]?=some ty) (hu:P.underlying ty=some (.slice e)) (hj:(P.info? e).map (·.size)=some sz)
  (F:ev ds=some (.slice b off len c)) (M:ev so=some v) (u:lq U sz v=some (n,news)) (z:Nat.min n len=Ew) (aa:1<=Ew) (hb:U.m.get b=some (.row cells e' false)) (hl:cF (news.take (Ew*sz))=true) (ab:1<=sz)
  (hle:off+(news.take (Ew*sz)).length<=cells.length) (R:dI (news.take (Ew*sz)) cells off=cells'):dX P G ev U (.call cl)= .val (.int .i64 (.ofNat Ew)) (U.setObj b (.row cells' e' false)):=by
 refine lA (by simp[kindOf,hc]) ?_;obtain⟨j,A,rfl⟩:=oM_.1 hj
 have he:uw ev [ds,so]=some [.slice b off len c,v]:=by
  unfold uw cU;simp only[F,M]
 have h0:Nat.beq Ew 0=false:=by
  grind [nB]
 subst R;simp only[gK,hc,C,he,sb,E,hu,A,u,z,h0,cond_false,hb,dn,hl,bP,show Nat.ble 1 j.size=true by simp_all,show Nat.ble (off+(news.take (Ew*j.size)).length) cells.length=true by simp_all,Bool.and_self,cond_true]
theorem IF {cl:Call} {so no:Operand} {ty A e sz b len cp n e' w:Nat} {k2:IntKind} {cells zs:List V} (hc:cl.callee= .builtin .append) (M:cl.args.toList= [so,no]) (R:cl.argTypes[0]?=some ty) (C:cl.argTypes[1]?=some A) (hu:P.underlying ty=some (.slice e)) (u:P.underlying A=some (.int k2)) (hj:(P.info? e).map (·.size)=some sz) (hw:(P.info? e).map (·.bytes)=some w) (W:(fJ P e).bind cW=some zs)
  (X:ev so=some (.slice b 0 len (.known cp))) (hn:ev no=some (.int .i64 (.ofNat n))) (hb:U.m.get b=some (.row cells e' false)) (h1:cp<len+n) (h2:1<=n) (h3:n<=1048576) (h4:len<=1048576) (h5:1<=sz) (h6:w<=65536) (h7:zs.length=sz) (h8:len*sz<=cells.length) {m:Nat} (hm:len+n=m):
  dX P G ev U (.call cl)= .val (.slice U.next 0 m (.upto sz)) (U.alloc (.row (cells.take (len*sz)++fq zs n) e false)):=by
 refine lA (by simp[kindOf,hc]) ?_;obtain⟨j,z,rfl⟩:=oM_.1 hj;rw[z] at hw;have hw:j.bytes=w:=by simpa using hw
 subst hm
 have he:uw ev [so,no]=some [.slice b 0 len (.known cp),.int .i64 (.ofNat n)]:=by
  unfold uw cU;simp only[X,hn]
 have E:dp P (some A)=false:=by simp only[dp,u]
 have F:Nat.ble (len+n) cp=false:=by
  grind [nE_]
 have e1:Nat.ble n 1048576=true:=by simp_all
 have e2:Nat.ble 1 n=true:=by simp_all
 have e3:Nat.ble 1 j.size=true:=by simp_all
 have e4:Nat.ble j.bytes 65536=true:=by simp_all
 have e5:Nat.beq (cY zs) j.size=true:=by rw[bP,h7];exact Nat.beq_refl _
 have e6:Nat.ble (0+len*j.size) (cY cells)=true:=by rw[nE_,bP];omega
 have e7:Nat.ble len 1048576=true:=by simp_all
 simp only[gK,hc,M,he,E,cond_false,pc,R,C,hu,u,z,W,e1,e2,e3,e4,e5,Bool.and_self,cond_true,F,hb,e6,e7,grow,dV,dn,dM,List.drop_zero]
end
section
variable {P:Program} {G:Cx} {ev:Operand->Option V} {U:I}
theorem FV {cl:Call} {g b b' off off' n n' e e':Nat} {c c':qf} {cells cells':List V} {x y:Operand} (hc:cl.callee= .value (.func g)) (M:cl.args.toList= [x,y]) (z:AZ P g=false) (A:G.ov g=true) (C:isNe P g=false) (hx:ev x=some (.slice b off n c)) (hy:ev y=some (.slice b' off' n' c')) (hf:ev (.func g)=some (.func g [] []))
  (h1:U.m.get b=some (.row cells e false)) (R:U.m.get b'=some (.row cells' e' false)) (hb:b≠b') (E:lH c=true) (u:lH c'=true) (hl:1<=cells'.length):dX P G ev U (.call cl)= .val (.bool false) U:=by
 refine lA (by simp[kindOf,hc]) ?_
 have he:uw ev [x,y]=some [.slice b off n c,.slice b' off' n' c']:=by
  unfold uw cU;simp only[hx,hy]
 have W:kA b b'=false:=by
  grind [kA,nB]
 have F:im ([]:List V) (im [.slice b off n c,.slice b' off' n' c'] [])= [.slice b off n c,.slice b' off' n' c']:=rfl;simp only[gK,hc,hf,M,he,zq,z,A,C,cond_true,cond_false,F,oH,h1,R,W,E,u,bP,show Nat.ble 1 cells'.length=true by simp_all,Bool.and_self]
theorem NC {cl:Call} {ty e:TypeId} {x:Operand} {v r:V} (hc:cl.callee= .builtin .cap) (u:cl.argTypes[0]?=some ty) (z:cl.args.toList= [x]) (hu:P.underlying ty=some (.slice e)) (hx:ev x=some v) (h:NM v=some r):dX P G ev U (.call cl)= .val r U:=by
 refine bf (by simp[kindOf,hc]) ?_;simp only[di,hc,u,z,hu,hx,h]
end
section
variable {P:Program} {G:Cx} {n:Nat} {t:PT V} {U:I} {K:H} {L:Own} {Q:Ex->PT V->I->Prop} {ops:Array Oper} {o:Oper} {l:List Oper}
theorem Kd (u:J U K L) {ob:cM} {k sz:Nat} {t':Nat->PT V} (hw:bS ops t o=some true) (hv:dX P G (bI G t) U o.op= .val (.slice U.next 0 k (.upto sz)) (U.alloc ob)) (hp:∀b,dG t n o.dst (.slice b 0 k (.upto sz))=some (t' b))
  (h:∀(U':I) (b:Nat),J U' K ((b,ob)::L)->bV P G ops n l (t' b) U' Q):bV P G ops n (o::l) t U Q:=
 O hw hv (hp _) (h _ _<|u.alloc ob)
end
section
variable {P:Program} {G:Cx} {U:I} {K:H} {L:Own}
theorem rR {α:Type} {m e:Nat} {R:α->List V->Prop} {l2:List α} {C:V} {ts:Array TypeId} {t:TypeId} (F:J U K L) (hx:bJ K m R l2 C) (u:∀x vs,R x vs->cF vs=true) (hn:l2.length<=1048576) (aa:1<=l2.length)
  (M:ts[0]?=some t) (hu:P.underlying t=some (.slice e)) (A:qh P e m=true) (W:dp P ts[1]?=true):
  ∃news,gh P U ts .au C= .val (.slice U.next 0 l2.length (.upto m)) (U.alloc (.row news e false))/\news.length=l2.length*m/\∀(i:Nat) (x:α),l2[i]?=some x->R x ((news.drop (i*m)).take m):=by
 obtain⟨news,X,s2,s3,s4⟩:=oL F hx u;refine⟨news,?_,s2,s4⟩;unfold qh at A;split at A
 ·rename_i j hj;simp only[bA_] at A;obtain⟨a1,a2,a3,a4⟩:=A;have hm:j.size=m:=nB a1;subst hm;have E:((P.info? e).any fun j=>(j.zero.bind qF).any fun z=>(cW z).any fun cs=>Nat.beq (cY cs) j.size)=true:=by rw[hj];exact a4
  have h0:Nat.beq l2.length 0=false:=by
   grind [nB]
  unfold gh;rw[M];dsimp only;rw[hu];dsimp only;rw[hj] at E⊢;dsimp only;rw[W,a2,a3];simp only[Bool.and_self,cond_true];rw[X];dsimp only;rw[s3,show Nat.ble l2.length 1048576=true by simp_all,E];simp only[Bool.and_self,cond_true,h0,cond_false];rfl
 cases A
end
section
variable {P:Program} {G:Cx} {n:Nat} {t:PT V} {U:I} {K:H} {L:Own} {Q:Ex->PT V->I->Prop} {ops:Array Oper} {o:Oper} {l:List Oper}
theorem H8 {α:Type} {m e:Nat} {R:α->List V->Prop} {l2:List α} {M:V} {ty:TypeId} {cl:Call} {so xo:Operand} {t':V->PT V} (W:J U K L) (hx:bJ K m R l2 M) (u:∀x vs,R x vs->cF vs=true) (hn:l2.length<=1048576) (A:1<=l2.length)
  (hw:bS ops t o=some true) (ho:o.op= .call cl) (C:cl.callee= .builtin .append) (z:cl.args.toList= [so,xo]) (ht:cl.argTypes[0]?=some ty) (hu:P.underlying ty=some (.slice e)) (ha:qh P e m=true) (X:dp P cl.argTypes[1]?=true)
  (E:bI G t so=some .au) (F:bI G t xo=some M) (hp:∀v,dG t n o.dst v=some (t' v))
  (h:∀(U':I) (b':Nat) (news:List V),J U' K ((b',.row news e false)::L)->news.length=l2.length*m->(∀(i:Nat) (x:α),l2[i]?=some x->R x ((news.drop (i*m)).take m))->bV P G ops n l (t' (.slice b' 0 l2.length (.upto m))) U' Q):bV P G ops n (o::l) t U Q:=by
 obtain⟨news,k1,k2,k3⟩:=rR (P:=P) W hx u hn A ht hu ha X;refine O hw ?_ (hp _)<|h _ U.next news (W.alloc _) k2 k3;rw[ho];exact dB C z E F X k1
end
section
variable {U:I} {K:H} {L:Own} {b:Nat} {o:cM}
def H.sub (K:H) (b:Nat):H:=fun b' o'=>K b' o'/\b'≠b
theorem J.Ow (h:J U K L) (hk:K b o):J U (K.sub b) ((b,o)::L) where
 kept b' o' hb:=by
  obtain⟨h1,z,A⟩:=h.kept b' o' hb.1;refine⟨h1,z,fun e he=>?_⟩;rcases mQ_.1 he with rfl | he
  ·exact fun u=>hb.2 u.symm
  exact A e he
 own e he:=by
  rcases mQ_.1 he with rfl | he
  ·exact⟨(h.kept b o hk).1,(h.kept b o hk).2.1⟩
  exact h.own e he
 ne:=List.pairwise_cons.2 ⟨fun e he u=>(h.kept b o hk).2.2 e he u.symm,h.ne⟩
theorem J.On {U0:I} {z:Own} (h0:J U0 K z) (hk:K b o) (h:J U (K.sub b) ((b,o)::L)):J U K L:=
 h.iC.weaken fun b' o' hb=>by
  by_cases u:b'=b
  ·subst u;have e1:=(h0.kept _ _ hb).2.1;rw[(h0.kept _ _ hk).2.1] at e1;cases e1;exact .inr ⟨Z,Z⟩
  exact .inl ⟨hb,u⟩
theorem J.two {b b':Nat} {o o' o1 aa:cM} (hb:b<U.next) (u:b'<U.next) (ab:b≠b'):J (ft U b o b' o') (fun _ _=>False) [(b,o),(b',o')] where
 kept _ _ h:=h.elim
 own e he:=by
  rcases mQ_.1 he with rfl | he
  ·exact⟨hb,by show((PT.leaf.put (some o) b).put (some o') b').get b=_;grind [PT.du,PT.dz]⟩
  rcases mQ_.1 he with rfl | he
  ·exact⟨u,PT.dz _ _ _⟩
  cases he
 ne:=List.pairwise_cons.2 ⟨fun e he=>(by simp_all),List.pairwise_singleton ..⟩
end
inductive ei (X:Own):Own->Own->Prop
 | here {L:Own}:ei X (X++L) L
 | there {y:Nat×cM} {L L0:Own}:ei X L L0->ei X (y::L) (y::L0)
 | cH {M L L0:Own}:ei X L L0->ei X (M++L) (M++L0)
theorem ei.perm {X L L0:Own} (h:ei X L L0):L.Perm (X++L0):=by
 induction h with
 | here=>simp_all
 | @there y L L0 _ ih=>exact(List.Perm.cons y ih).trans List.perm_middle.symm
 | @cH M L L0 _ ih=>
  refine(List.Perm.append_left M ih).trans ?_
  grind [List.Perm.append_right,List.perm_append_comm]
theorem ei.nE {X A B_ L:Own}:ei X ((A++(X++B_))++L) ((A++B_)++L):=by
 rw[lQ_,lQ_,lQ_];exact .cH .here
section
variable {U:I} {K:H} {L L0 X:Own}
theorem J.pull (h:J U K L) (hi:ei X L L0):J U K (X++L0):=h.perm hi.perm
theorem J.push (h:J U K (X++L0)) (hi:ei X L L0):J U K L:=h.perm hi.perm.symm
theorem eY {P:Program} {α:Type} {m e:Nat} {R:α->List V->Prop} {l l2:List α} {u F:V} {M:Own} {bv ev:Nat} {cv:List V} {ts:Array TypeId} {t:TypeId} (ho:cN m e R l u M) (aq:J U K ((bv,.row cv ev false)::(M++L)))
  (hx:bJ (K.add bv (.row cv ev false)) m R l2 F) (z:∀x vs,R x vs->cF vs=true) (hn:l2.length<=1000) (A:1<=l2.length) (hl:l.length<=1000000)
  (G:ts[0]?=some t) (hu:P.underlying t=some (.slice e)) (Q:qh P e m=true) (W:dp P ts[1]?=true):
  ∃U' u' M',gh P U ts u F= .val u' U'/\cN m e R (l++l2) u' M'/\J U' K (M'++L):=by
 have hk:=aq.iC;rcases ho with ⟨rfl,rfl,rfl⟩ | ⟨b,c,cells,e',rfl,rfl,h3,h4,h5,h6⟩
 ·obtain⟨news,C,k2,E⟩:=rR (P:=P) hk hx z B A G hu Q W;exact⟨_,_,[(U.next,.row news e false)],C,.inr ⟨_,_,news,e,Z,Z,k2,E,.inr ⟨Z,Z⟩,by grind⟩,((hk.alloc (.row news e false)).weaken<|H.sO _ _ _)⟩
 obtain⟨U',b',c',news,e2,C,k2,E,k4,k5⟩:=yP (P:=P) hk hx z B h3 B h5 G hu Q W;exact⟨U',_,[(b',.row (cells++news) e2 false)],C,qJ h3 h4 E k4 Z k5 B,k2.weaken<|H.sO _ _ _⟩
end
def Gl (g:XG) (tm:Nat) (e:de) (fr:dy) (pl:Nat) (row:List de) (frow:List dy) (orow:List dy) (loc:Nat):XG:=
 {init:=g.init,threads:=g.threads.set tm (row++[e]),from_:=g.from_.set tm (frow++[fr]),order:=bif bD e then g.order.set loc (orow.take pl++⟨.ofNat (tm+1),.ofNat row.length⟩::orow.drop pl) else g.order}
def gw (g:XG) (th:Int) (e:de) (fr:dy) (pl:Int):Option XG×Int:=
 bif !D (cu g) 0 then(none,2) else
 bif bR th 1 then(none,9) else
 bif bR (.ofNat g.threads.length) th then(none,9) else
 match g.threads[th.toNat-1]?,g.from_[th.toNat-1]? with
 | some row,some frow=>
  bif !bR (.ofNat row.length) 14 then(none,3) else
  bif (bif bD e then(bif bR pl 1 then true else bR (.ofNat (cC g e.loc).length) pl) else !D pl 0) then(none,2) else
  let g':=Gl g (th.toNat-1) e fr (pl.toNat-1) row frow ((g.order[e.loc.toNat]?).getD []) e.loc.toNat
  bif D (cu g') 0 then(some g',0) else(none,2)
 | _,_=>(none,9)
theorem yQ {P:Program} {G:Cx} {ev:Operand->Option V} {U:I} {α:Type} {m E:Nat} {R:α->List V->Prop} {l:List α} {u:V} {M:Own} {c:Call} {t e:TypeId} {x:Operand} (h:cN m E R l u M) (hc:c.callee= .builtin .len) (z:c.argTypes[0]?=some t) (A:c.args.toList= [x]) (hu:P.underlying t=some (.slice e)) (hx:ev x=some u):
  dX P G ev U (.call c)= .val (.int .i64 (.ofNat l.length)) U:=
 aW (K:=fun b o=>(b,o)∈M) (h.iB fun e he=>he) hc z A hu hx
theorem ri (b o l c:Nat):dZ (.slice b o l (.known c)) (.slice b o l (.known c))=true:=by
 unfold dZ;show(dZ.beqP b b && Nat.beq o o && Nat.beq l l && dZ.beqC (.known c) (.known c))=true
 grind [dZ.beqP,Nat.beq_refl,dZ.beqC]
theorem gg {us:List V} {u:V} {i:Nat} (h:i<us.length):dI [u] us (0+i*1)=us.set i u:=by
 rw[show 0+i*1=i by omega,oN _ _ _ (by grind),List.length_singleton,List.set_eq_take_append_cons_drop,if_pos h,lQ_];rfl
theorem pK {n:Int} (h:bR n 1=false):∃m:Nat,n= .ofNat (m+1):=by
 cases n with
 | negSucc k=>cases h
 | ofNat k=>
  have:1<=k:=br (a:=k) (b:=1) h;exact⟨k-1,by simp_all⟩
theorem Bb {m:LM} {k:List Int} (h:(gm m k).isSome=true):(lW m k).length+1=m.length:=by
 unfold gm at h;unfold lW;cases u:qC m k 0 with
 | none=>rw[u] at h;cases h
 | some p=>
  obtain⟨j,v⟩:=p;have h1:=(rC u).2
  grind
theorem vo {loc:Nat}:∀{l:List dy} {m m':LM},me loc l m=some m'->m'.length+l.length=m.length
 | [],m,m',h=>by cases h;rfl
 | id::l,m,m',h=>by
  have h':(bif (gm m id.ints).isSome then(bif D ((gm m id.ints).getD 0) (.ofNat loc) then me loc l (lW m id.ints) else none) else none)=some m':=h;cases u:(gm m id.ints).isSome with
  | false=>rw[u] at h';cases h'
  | true=>
   rw[u] at h';cases he:D ((gm m id.ints).getD 0) (.ofNat loc) with
   | false=>rw[he] at h';cases h'
   | true=>
    rw[he] at h';have h1:=vo (l:=l) h';have h2:=Bb u;rw[List.length_cons];omega
theorem vp:∀{ls:List (List dy)} {loc:Nat} {m m':LM},nQ ls loc m=some m'->∀l∈ls,l.length<=m.length
 | [],_,_,_,_,l,hl=>by cases hl
 | r::ls,loc,m,m',h,l,hl=>by
  have h':(me loc r m).bind (nQ ls (loc+1))=some m':=h;cases u:me loc r m with
  | none=>simp_all
  | some m1=>
   rw[u] at h';have h1:=vo u;rcases mQ_.1 hl with rfl | hl
   ·omega
   have:=vp (ls:=ls) h' l hl;omega
theorem CV {t:Nat} {m:LM} {n:Nat} {e:de}:(xG t m n e).length<=m.length+1:=by
 unfold xG;cases bD e with
 | false=>simp_all
 | true=>
  show(qD m _ _).length<=_;unfold qD
  grind
theorem vA {t:Nat}:∀{l:List de} {n:Nat} {m:LM},(rW t l n m).length<=m.length+l.length
 | [],_,_=>nR_ _
 | e::l,n,m=>by
  have h1:=vA (t:=t) (l:=l) (n:=n+1) (m:=xG t m n e);have h2:=CV (t:=t) (m:=m) (n:=n) (e:=e);show(rW t l (n+1)<|xG t m n e).length<=_;rw[List.length_cons];omega
theorem vB:∀{ls:List (List de)} {t:Nat} {m:LM},(∀l∈ls,l.length<=14)->(qb ls t m).length<=m.length+14*ls.length
 | [],_,_,_=>by simp[qb]
 | l::ls,t,m,h=>by
  have h1:=vB (ls:=ls) (t:=t+1) (m:=rW t l 0 m) fun x hx=>h x (mC_ _ hx)
  have h2:=vA (t:=t) (l:=l) (n:=0) (m:=m);have h3:=h l (mS_ ..);show(qb ls (t+1)<|rW t l 0 m).length<=_;rw[List.length_cons];omega
theorem kr {g:XG} (h:cu g=0):∀l∈g.order,l.length<=56:=by
 intro l hl;obtain⟨b1,b2,u,b4,b5,b6,z⟩:=cR h;unfold eZ at z;cases hc:nQ g.order 0 (qb g.threads 0 []) with
 | none=>simp_all
 | some m=>
  have h1:=vp hc l hl;have h2:=vB (ls:=g.threads) (t:=0) (m:=[]) u
  grind
end Go.Ev
namespace Go.Ev
variable [Env]
theorem nd {g:XG}:∀{ts:List (List de)} {fs:List (List dy)} {i:Nat},lY g ts fs i=true->fs.length=ts.length->(∀l∈ts,l.length<=14)->∀f∈fs,f.length<=14
 | [],fs,_,_,hl,_,f,hf=>by
  rw[eN_ hl] at hf;cases hf
 | x::ts,[],_,_,hl,_,f,hf=>by cases hf
 | x::ts,y::fs,i,h,hl,hb,f,hf=>by
  have h':(bif D (.ofNat y.length) (.ofNat x.length) then(bif qS g i x y 0 then lY g ts fs (i+1) else false) else false)=true:=h;cases he:D (.ofNat y.length) (.ofNat x.length) with
  | false=>rw[he] at h';cases h'
  | true=>
   rw[he] at h';cases u:qS g i x y 0 with
   | false=>rw[u] at h';cases h'
   | true=>
    rw[u] at h';have e1:=dA he;have e2:=hb x (mS_ ..);rcases mQ_.1 hf with rfl | hf
    ·omega
    exact nd (ts:=ts) (fs:=fs) h' (by simpa using hl) (fun l hl=>hb l (mC_ _ hl)) f hf
end Go.Ev
namespace Go.Ev
variable [Env]
theorem B5 {g:XG} {th pl:Int} {e:de} {fr:dy} (h:D (cu g) 0=false):gw g th e fr pl=(none,2):=by unfold gw;rw[h];rfl
theorem B6 {g:XG} {th pl:Int} {e:de} {fr:dy} (h:D (cu g) 0=true) (h1:bR th 1=true):gw g th e fr pl=(none,9):=by unfold gw;rw[h,h1];rfl
theorem B4 {g:XG} {th pl:Int} {e:de} {fr:dy} (h:D (cu g) 0=true) (h1:bR th 1=false) (u:bR (.ofNat g.threads.length) th=true):gw g th e fr pl=(none,9):=by unfold gw;rw[h,h1,u];rfl
def cX (g:XG) (e:de) (pl:Int):Bool:=bif bD e then(bif bR pl 1 then true else bR (.ofNat (cC g e.loc).length) pl) else !D pl 0
def eR (g:XG) (tm:Nat) (e:de) (fr:dy) (pl:Int) (row:List de) (frow:List dy):XG:=Gl g tm e fr (pl.toNat-1) row frow ((g.order[e.loc.toNat]?).getD []) e.loc.toNat
theorem lg {g:XG} {tm:Nat} {pl:Int} {e:de} {fr:dy} {row:List de} {frow:List dy} (h:D (cu g) 0=true) (hx:g.threads[tm]?=some row) (hf:g.from_[tm]?=some frow):
  gw g (.ofNat (tm+1)) e fr pl=bif !bR (.ofNat row.length) 14 then(none,3) else bif cX g e pl then(none,2) else bif D (cu<|eR g tm e fr pl row frow) 0 then(some<|eR g tm e fr pl row frow,0) else(none,2):=by
 have aa:tm<g.threads.length:=(gA.1 hx).1;have h1:bR (.ofNat (tm+1)) 1=false:=by rw[show(1:Int)= .ofNat 1 from Z,mn];simp
 have u:bR (.ofNat g.threads.length) (.ofNat (tm+1))=false:=by rw[mn];simp;omega
 have e1:(Int.ofNat (tm+1)).toNat-1=tm:=rfl;unfold gw;rw[h,h1,u];simp only[Bool.not_true,cond_false,e1,hx,hf];rfl
end Go.Ev
namespace Go.Ev
variable [Env]
theorem yN {g:XG} {loc:Int} (h:1<=(cC g loc).length):∃(ln:Nat) (r:List dy),loc= .ofNat ln/\g.order[ln]?=some r/\(cC g loc).length=r.length+1:=by
 cases hc:D (cu g) 0 with
 | false=>rw[pU hc] at h;cases h
 | true=>
  cases hl:bR loc 0 with
  | true=>rw[ra hl] at h;cases h
  | false=>
   obtain⟨ln,rfl⟩:=iD hl;cases u:g.order[ln]? with
   | none=>
    grind [q8]
   | some r=>exact⟨ln,r,Z,u,by rw[eG hc u];rfl⟩
section
variable {U U0:I} {K:H} {L M:Own}
theorem J.tU (h0:J U0 K (M++L)) (h:J U (K.gF M) L):J U K (M++L) where
 kept b o hb:=by
  obtain⟨h1,u,z⟩:=h.kept b o (.inl hb);refine⟨h1,u,fun e he=>?_⟩;rcases List.mem_append.1 he with he | he
  ·exact(h0.kept b o hb).2.2 e (List.mem_append_left _ he)
  exact z e he
 own e he:=by
  rcases List.mem_append.1 he with he | he
  ·exact⟨(h.kept e.1 e.2 (.inr he)).1,(h.kept e.1 e.2 (.inr he)).2.1⟩
  exact h.own e he
 ne:=h0.ne
end
end Go.Ev
namespace Go.Ev
variable [Env]
inductive oX:Own->Own->Own->Prop
 | base {L:Own}:oX L [] L
 | there {x:Nat×cM} {LL M L:Own}:oX LL M L->oX (x::LL) (x::M) L
 | cH {A LL M L:Own}:oX LL M L->oX (A++LL) (A++M) L
theorem oX.eq {LL M L:Own} (h:oX LL M L):LL=M++L:=by
 induction h with
 | base=>rfl
 | there _ ih=>rw[ih];rfl
 | cH _ ih=>simp_all
theorem J.app {U:I} {K:H} {LL M L:Own} (h:J U K LL) (u:oX LL M L):J U K (M++L):=by rw[<-u.eq];exact h
theorem J.DM {U:I} {K:H} {LL M L:Own} (h:J U K (M++L)) (u:oX LL M L):J U K LL:=by rw[u.eq];exact h
theorem tw {g:XG} {tm ln pm:Nat} {e:de} {fr:dy} {row:List de} {frow orow:List dy} (hw:bD e=true) (hl:e.loc= .ofNat ln) (ho:g.order[ln]?=some orow):
  eR g tm e fr (.ofNat (pm+1)) row frow= {init:=g.init,threads:=g.threads.set tm (row++[e]),from_:=g.from_.set tm (frow++[fr]),order:=g.order.set ln (orow.take pm++⟨.ofNat (tm+1),.ofNat row.length⟩::orow.drop pm)}:=by
 have e1:(Int.ofNat (pm+1)).toNat-1=pm:=rfl;have e2:(Int.ofNat ln).toNat=ln:=rfl;unfold eR Gl
 simp_all
theorem wj {g:XG} {tm:Nat} {pl:Int} {e:de} {fr:dy} {row:List de} {frow:List dy} (hw:bD e=false):
  eR g tm e fr pl row frow= {init:=g.init,threads:=g.threads.set tm (row++[e]),from_:=g.from_.set tm (frow++[fr]),order:=g.order}:=by
 unfold eR Gl;rw[hw];rfl
theorem HG {g:XG} {i:Nat}:fE g ⟨.ofNat 0,.ofNat i⟩=(g.init[i]?).map fun v=>⟨2,i,1,0,v⟩:=rfl
theorem qt {g:XG} {t i:Nat}:fE g ⟨.ofNat (t+1),.ofNat i⟩=(g.threads[t]?).bind (·[i]?):=rfl
theorem Ju {g g':XG} {tm:Nat} {row:List de} {e w:de} {id:dy} (hr:g.threads[tm]?=some row) (hi:g'.init=g.init) (ht:g'.threads=g.threads.set tm (row++[e])) (h:fE g id=some w):fE g' id=some w:=by
 obtain⟨th,ix⟩:=id;cases ix with
 | negSucc k=>rw[rm (by rw[fo];simp)] at h;cases h
 | ofNat i=>
  cases th with
  | negSucc k=>rw[uu (by rw[fo];simp)] at h;cases h
  | ofNat t=>
   cases t with
   | zero=>rw[HG] at h⊢;rw[hi];exact h
   | succ t=>
    rw[qt] at h⊢
    grind
theorem Jt {g g':XG} {tm:Nat} {row:List de} {e:de} (z:g.threads[tm]?=some row) (A:g'.threads=g.threads.set tm (row++[e])):fE g' ⟨.ofNat (tm+1),.ofNat row.length⟩=some e:=by
 have u:tm<g.threads.length:=(gA.1 z).1;rw[qt,A,List.getElem?_set,if_pos Z,if_pos u]
 simp_all
def gn (t:Nat):List de->Nat->LM
 | [],_=>[]
 | e::l,n=>bif bD e then([.ofNat (t+1),.ofNat n],e.loc)::gn t l (n+1) else gn t l (n+1)
def hU:List (List de)->Nat->LM
 | [],_=>[]
 | l::r,t=>gn t l 0++hU r (t+1)
theorem zS {k:List Int}:∀{m:LM} {i:Nat},(∀p∈m,p.1≠k)->qC m k i=none
 | [],_,_=>rfl
 | (k',v)::m,i,h=>by
  show(bif dq k k' then some (i,v) else qC m k (i+1))=none
  have:dq k k'=false:=by
   cases u:dq k k' with
   | false=>rfl
   | true=>exact absurd (cL.1 u).symm (h (k',v)<|mS_ ..)
  rw[this];exact zS fun p hp=>h p (mC_ _ hp)
theorem xH {t:Nat}:∀{l:List de} {n:Nat} {m:LM},(∀p∈m,∀k,n<=k->p.1≠[.ofNat (t+1),.ofNat k])->rW t l n m=m++gn t l n
 | [],_,m,_=>by simp[rW,gn]
 | e::l,n,m,h=>by
  show rW t l (n+1) (xG t m n e)=m++(bif bD e then _ else _);unfold xG;cases hw:bD e with
  | false=>exact xH fun p hp k hk=>h p hp k B
  | true=>
   show rW t l (n+1) (qD m [.ofNat (t+1),.ofNat n] e.loc)=m++_
   have hp:qD m [.ofNat (t+1),.ofNat n] e.loc=m++[([.ofNat (t+1),.ofNat n],e.loc)]:=by
    unfold qD;rw[zS fun p hp=>h p hp n (nR_ _)]
   rw[hp,xH (l:=l) (n:=n+1) fun p hp k hk=>?_,lQ_]
   ·rfl
   grind
theorem mJ {t:Nat}:∀{l:List de} {n:Nat},∀p∈gn t l n,∃k,p.1= [.ofNat (t+1),.ofNat k]/\n<=k
 | [],_,p,h=>by cases h
 | e::l,n,p,h=>by
  have h':p∈(bif bD e then([.ofNat (t+1),.ofNat n],e.loc)::gn t l (n+1) else gn t l (n+1)):=h;cases hw:bD e with
  | false=>
   rw[hw] at h';obtain⟨k,h1,u⟩:=mJ (l:=l) p h';exact⟨k,h1,by omega⟩
  | true=>
   rw[hw] at h';rcases mQ_.1 h' with rfl | h'
   ·exact⟨n,Z,nR_ _⟩
   obtain⟨k,h1,u⟩:=mJ (l:=l) p h';exact⟨k,h1,by omega⟩
theorem CW:∀{ls:List (List de)} {t:Nat} {m:LM},(∀p∈m,∀s k,t<=s->p.1≠[.ofNat (s+1),.ofNat k])->qb ls t m=m++hU ls t
 | [],_,m,_=>by simp[qb,hU]
 | l::ls,t,m,h=>by
  show qb ls (t+1) (rW t l 0 m)=m++(gn t l 0++hU ls (t+1));rw[xH fun p hp k _=>h p hp t k (nR_ _),CW (ls:=ls) (t:=t+1) fun p hp s k hs=>?_,lQ_];rcases List.mem_append.1 hp with hp | hp
  ·grind
  obtain⟨k',h1,_⟩:=mJ p hp
  grind
theorem vC {ls:List (List de)}:qb ls 0 []=hU ls 0:=by
 rw[CW fun p hp=>by cases hp];rfl
def gd (loc:Nat) (l:List dy):LM:=l.map fun id=>(id.ints,.ofNat loc)
def nr:List (List dy)->Nat->LM
 | [],_=>[]
 | r::ls,loc=>gd loc r++nr ls (loc+1)
theorem ll {α:Type}:∀{m:List α} {j:Nat} {x:α},m[j]?=some x->m.Perm (x::m.eraseIdx j)
 | [],_,_,h=>by simp at h
 | y::m,0,x,h=>by
  have:y=x:=by simpa using h
  subst this;exact List.Perm.refl _
 | y::m,j+1,x,h=>by
  have h':m[j]?=some x:=by simpa using h
  exact(List.Perm.cons y<|ll h').trans (List.Perm.swap x y _)
theorem xN {m:LM} {k:List Int} {v:Int} (h:gm m k=some v):m.Perm ((k,v)::lW m k):=by
 unfold gm at h;unfold lW;cases u:qC m k 0 with
 | none=>rw[u] at h;cases h
 | some p=>
  obtain⟨j,w⟩:=p;rw[u] at h;have hw:w=v:=by simpa using h
  subst hw;exact ll (rC u).2
theorem zu {loc:Nat}:∀{l:List dy} {m m':LM},me loc l m=some m'->m.Perm (gd loc l++m')
 | [],m,m',h=>by cases h;exact List.Perm.refl _
 | id::l,m,m',h=>by
  have h':(bif (gm m id.ints).isSome then(bif D ((gm m id.ints).getD 0) (.ofNat loc) then me loc l (lW m id.ints) else none) else none)=some m':=h;cases u:gm m id.ints with
  | none=>rw[u] at h';cases h'
  | some v=>
   rw[u] at h';have h'':(bif D v (.ofNat loc) then me loc l (lW m id.ints) else none)=some m':=h';cases he:D v (.ofNat loc) with
   | false=>rw[he] at h'';cases h''
   | true=>
    rw[he] at h'';rw[dE] at he;have hv:v= .ofNat loc:=of_decide_eq_true he;subst hv;exact(xN u).trans (List.Perm.cons _<|zu (l:=l) h'')
theorem zw:∀{ls:List (List dy)} {loc:Nat} {m m':LM},nQ ls loc m=some m'->m.Perm (nr ls loc++m')
 | [],_,m,m',h=>by cases h;exact List.Perm.refl _
 | r::ls,loc,m,m',h=>by
  have h':(me loc r m).bind (nQ ls (loc+1))=some m':=h;cases u:me loc r m with
  | none=>rw[u] at h';cases h'
  | some m1=>
   rw[u] at h';refine(zu u).trans ?_;show(gd loc r++m1).Perm ((gd loc r++nr ls (loc+1))++m');rw[lQ_];exact List.Perm.append_left _<|zw (ls:=ls) h'
theorem Fl {g:XG} (h:eZ g=true):(hU g.threads 0).Perm (nr g.order 0):=by
 unfold eZ at h;cases hc:nQ g.order 0 (qb g.threads 0 []) with
 | none=>rw[hc] at h;cases h
 | some m=>
  rw[hc] at h
  have h0:m= []:=by
   have h1:D (.ofNat m.length) (.ofNat 0)=true:=h;rw[fG] at h1
   simp_all
  have:=zw hc;rw[h0,List.append_nil,vC] at this;exact this
theorem C3 {k:List Int} {v:Int}:∀{m:LM} {i:Nat},(m.map (·.1)).Nodup->(k,v)∈m->∃j,qC m k i=some (j,v)
 | (k',w)::m,i,u,h=>by
  rw[List.map_cons,List.nodup_cons] at u;show∃j,(bif dq k k' then some (i,w) else qC m k (i+1))=some (j,v);rcases mQ_.1 h with h1 | h1
  ·cases h1;rw[cL.2 Z];exact⟨i,Z⟩
  have:dq k k'=false:=by
   cases z:dq k k' with
   | false=>rfl
   | true=>
    have e:=cL.1 z
    simp_all
  rw[this];exact C3 (m:=m) u.2 h1
theorem Gc {loc:Nat}:∀{l:List dy} {m rest:LM},m.Perm (gd loc l++rest)->(m.map (·.1)).Nodup->∃m',me loc l m=some m'/\m'.Perm rest/\(m'.map (·.1)).Nodup
 | [],m,rest,h,z=>⟨m,Z,h,z⟩
 | id::l,m,rest,h,z=>by
  have u:(id.ints,Int.ofNat loc)∈m:=h.mem_iff.2 (mS_ ..);obtain⟨j,hj⟩:=C3 (i:=0) z u;have E:gm m id.ints=some (.ofNat loc):=by unfold gm;rw[hj];rfl
  have hp:=xN E;have A:(lW m id.ints).Perm (gd loc l++rest):=List.Perm.cons_inv (hp.symm.trans h)
  have C:((lW m id.ints).map (·.1)).Nodup:=by
   have:=(hp.map (·.1)).nodup_iff.1 z
   rw[List.map_cons,List.nodup_cons] at this;exact this.2
  obtain⟨m',h1,F,G⟩:=Gc (l:=l) A C;refine⟨m',?_,F,G⟩;show(bif (gm m id.ints).isSome then(bif D ((gm m id.ints).getD 0) (.ofNat loc) then me loc l (lW m id.ints) else none) else none)=some m';have he:D (.ofNat loc) (.ofNat loc)=true:=by rw[fG];simp
  rw[E];show(bif D (.ofNat loc) (.ofNat loc) then me loc l (lW m id.ints) else none)=some m';rw[he];exact h1
theorem Gd:∀{ls:List (List dy)} {loc:Nat} {m:LM},m.Perm (nr ls loc)->(m.map (·.1)).Nodup->nQ ls loc m=some []
 | [],_,m,h,_=>by rw[show m= [] from h.eq_nil];rfl
 | r::ls,loc,m,h,u=>by
  obtain⟨m',h1,z,A⟩:=Gc (l:=r) (rest:=nr ls (loc+1)) h u;show(me loc r m).bind (nQ ls (loc+1))=some [];rw[h1];exact Gd (ls:=ls) z A
theorem q7 {t:Nat}:∀{l:List de} {n:Nat},((gn t l n).map (·.1)).Nodup
 | [],_=>List.nodup_nil
 | e::l,n=>by
  show((bif bD e then([.ofNat (t+1),.ofNat n],e.loc)::gn t l (n+1) else gn t l (n+1):LM).map (·.1)).Nodup
  cases bD e with
  | false=>exact q7 (l:=l)
  | true=>
   show(([Int.ofNat (t+1),Int.ofNat n],e.loc).1::(gn t l (n+1)).map (·.1)).Nodup
   rw[List.nodup_cons];refine⟨fun h=>?_,q7 (l:=l)⟩;obtain⟨p,hp,he⟩:=List.mem_map.1 h;obtain⟨k,h1,h2⟩:=mJ p hp
   grind
theorem Ar:∀{ls:List (List de)} {t:Nat},∀p∈hU ls t,∃s k,p.1= [.ofNat (s+1),.ofNat k]/\t<=s
 | [],_,p,h=>by cases h
 | l::ls,t,p,h=>by
  have h':p∈gn t l 0++hU ls (t+1):=h;rcases List.mem_append.1 h' with h' | h'
  ·obtain⟨k,h1,_⟩:=mJ p h';exact⟨t,k,h1,nR_ _⟩
  obtain⟨s,k,h1,h2⟩:=Ar (ls:=ls) p h';exact⟨s,k,h1,by omega⟩
theorem qZ:∀{ls:List (List de)} {t:Nat},((hU ls t).map (·.1)).Nodup
 | [],_=>List.nodup_nil
 | l::ls,t=>by
  show((gn t l 0++hU ls (t+1)).map (·.1)).Nodup
  rw[List.map_append,List.nodup_append];refine⟨q7,qZ (ls:=ls),fun a u b hb aa=>?_⟩;obtain⟨p,hp,rfl⟩:=List.mem_map.1 u;obtain⟨q,hq,rfl⟩:=List.mem_map.1 hb;obtain⟨k,h1,_⟩:=mJ p hp;obtain⟨s,k',h3,h4⟩:=Ar q hq
  grind
theorem qQ {g:XG}:eZ g=true↔(hU g.threads 0).Perm (nr g.order 0):=by
 refine⟨Fl,fun h=>?_⟩;unfold eZ;rw[vC,Gd h qZ];rfl
theorem tM {g:XG} {t:Nat}:∀{l:List de} {f:List dy} {n:Nat},f.length=l.length->(qS g t l f n=true↔∀i e q,l[i]?=some e->f[i]?=some q->zd g t (n+i) e q=true)
 | [],f,n,h=>⟨fun _ i e q h1=>by simp at h1,fun _=>Z⟩
 | x::l,[],n,h=>by cases h
 | x::l,y::f,n,h=>by
  have hl:f.length=l.length:=by simpa using h
  show(bif zd g t n x y then qS g t l f (n+1) else false)=true↔_;constructor
  ·intro u i e q h1 z;cases A:zd g t n x y with
   | false=>rw[A] at u;cases u
   | true=>
    rw[A] at u;cases i with
    | zero=>
     have e1:x=e:=by simpa using h1
     have C:y=q:=by simpa using z
     subst e1 C;exact A
    | succ i=>
     have:=(tM hl).1 u i e q (by simpa using h1) (by simpa using z);rwa[show n+1+i=n+(i+1) by omega] at this
  intro u;rw[show zd g t n x y=true from u 0 x y Z Z];refine(tM hl).2 fun i e q h1 z=>?_
  have:=u (i+1) e q (by simpa using h1) (by simpa using z);rwa[show n+(i+1)=n+1+i by omega] at this
theorem rM {g:XG}:∀{ls:List (List de)} {fs:List (List dy)} {t:Nat},fs.length=ls.length->(lY g ls fs t=true↔∀i l f,ls[i]?=some l->fs[i]?=some f->f.length=l.length/\∀j e q,l[j]?=some e->f[j]?=some q->zd g (t+i) j e q=true)
 | [],f,n,h=>⟨fun _ i e q h1=>by simp at h1,fun _=>Z⟩
 | x::l,[],n,h=>by cases h
 | x::l,y::f,t,h=>by
  have hl:f.length=l.length:=by simpa using h
  show(bif D (.ofNat y.length) (.ofNat x.length) then(bif qS g t x y 0 then lY g l f (t+1) else false) else false)=true↔_;constructor
  ·intro u i e q h1 C;cases he:D (.ofNat y.length) (.ofNat x.length) with
   | false=>rw[he] at u;cases u
   | true=>
    rw[he] at u;cases E:qS g t x y 0 with
    | false=>rw[E] at u;cases u
    | true=>
     rw[E] at u;cases i with
     | zero=>
      have e1:x=e:=by simpa using h1
      have F:y=q:=by simpa using C
      subst e1 F;refine⟨dA he,fun j w z A k2=>?_⟩;have:=(tM<|dA he).1 E j w z A k2;rwa[nA_] at this
     | succ i=>
      have:=(rM hl).1 u i e q (by simpa using h1) (by simpa using C);rwa[show t+1+i=t+(i+1) by omega] at this
  intro u;obtain⟨h1,C⟩:=u 0 x y Z Z;rw[show D (.ofNat y.length) (.ofNat x.length)=true by rw[fG];simp[h1]];rw[show qS g t x y 0=true from(tM h1).2 fun i e q A k2=>by have:=C i e q A k2;rwa[nA_]];refine(rM hl).2 fun i e q A k2=>?_
  have:=u (i+1) e q (by simpa using A) (by simpa using k2);rwa[show t+(i+1)=t+1+i by omega] at this
structure zl (g:XG):Prop where
 threads:g.threads.length<=4
 init:g.init.length<=6
 short:∀(i:Nat) (l:List de),g.threads[i]?=some l->l.length<=14
 from_:g.from_.length=g.threads.length
 order:g.order.length=g.init.length
 rows:∀(i:Nat) (l:List de) (f:List dy),g.threads[i]?=some l->g.from_[i]?=some f->f.length=l.length/\∀(j:Nat) (e:de) (q:dy),l[j]?=some e->f[j]?=some q->zd g i j e q=true
 perm:(hU g.threads 0).Perm (nr g.order 0)
theorem iA {g:XG}:cu g=0↔zl g:=by
 constructor
 ·intro h;obtain⟨A,C,E,z,F,G,K⟩:=cR h;refine⟨A,C,fun i l hl=>E l (gB_ hl),z,F,fun i l f u k2=>?_,qQ.1 K⟩;have:=(rM z).1 G i l f u k2
  simp_all
 intro h;unfold cu
 have h1:eV g=false:=by
  unfold eV;rw[show bR 4 (.ofNat g.threads.length)=false by rw[show(4:Int)= .ofNat 4 from Z,mn];have:=h.threads;simp;omega];rw[show bR 6 (.ofNat g.init.length)=false by rw[show(6:Int)= .ofNat 6 from Z,mn];have:=h.init;simp;omega];show(g.threads.any fun l=>bR 14 (.ofNat l.length))=false;rw[List.any_eq_false];intro l hl;obtain⟨i,hi⟩:=gO_ hl;have:=h.short i l hi;rw[show(14:Int)= .ofNat 14 from Z,mn];simp;omega
 rw[h1];rw[show D (.ofNat g.from_.length) (.ofNat g.threads.length)=true by rw[fG];simp[h.from_]];rw[show D (.ofNat g.order.length) (.ofNat g.init.length)=true by rw[fG];simp[h.order]];rw[show lY g g.threads g.from_ 0=true from(rM h.from_).2 fun i l f u k2=>by have:=h.rows i l f u k2;rwa[nA_]];rw[qQ.2 h.perm];rfl
def Ie (o:List (List dy)) (e:de) (id:dy) (pl:Int):List (List dy):=
 bif bD e then o.set e.loc.toNat (((o[e.loc.toNat]?).getD []).take (pl.toNat-1)++id::((o[e.loc.toNat]?).getD []).drop (pl.toNat-1)) else o
theorem mD {g:XG} {tm:Nat} {e:de} {fr:dy} {pl:Int} {row:List de} {frow:List dy}:eR g tm e fr pl row frow=⟨g.init,g.threads.set tm (row++[e]),g.from_.set tm (frow++[fr]),Ie g.order e ⟨.ofNat (tm+1),.ofNat row.length⟩ pl⟩:=rfl
theorem ma {g:XG} {e:de} {pl:Int} (h:cX g e pl=false) (hw:bD e=true):∃(ln:Nat) (r:List dy),e.loc= .ofNat ln/\g.order[ln]?=some r/\(cC g e.loc).length=r.length+1:=by
 unfold cX at h;rw[hw] at h;have h:(bif bR pl 1 then true else bR (.ofNat (cC g e.loc).length) pl)=false:=h;cases h1:bR pl 1 with
 | true=>rw[h1] at h;cases h
 | false=>
  rw[h1] at h;obtain⟨m,rfl⟩:=pK h1;have u:bR (.ofNat (cC g e.loc).length) (.ofNat (m+1))=false:=h;have:=br u;exact yN B
theorem ka {g a:XG} {th pl:Int} {e:de} {fr:dy} (h:gw g th e fr pl=(some a,0)):cu g=0/\∃tm row frow,th= .ofNat (tm+1)/\g.threads[tm]?=some row/\g.from_[tm]?=some frow/\bR (.ofNat row.length) 14=true/\cX g e pl=false/\a=eR g tm e fr pl row frow/\cu a=0:=by
 cases hc:D (cu g) 0 with
 | false=>rw[B5 hc] at h;cases h
 | true=>
  refine⟨s5 hc,?_⟩;cases h1:bR th 1 with
  | true=>rw[B6 hc h1] at h;cases h
  | false=>
   cases E:bR (.ofNat g.threads.length) th with
   | true=>rw[B4 hc h1 E] at h;cases h
   | false=>
    obtain⟨tm,rfl⟩:=pK h1;have A:tm<g.threads.length:=by have:=br E;omega
    obtain⟨row,z⟩:=cq A;obtain⟨frow,u⟩:=cq (show tm<g.from_.length by rw[(cR<|s5 hc).2.2.2.1];exact A);rw[lg hc z u] at h;cases C:bR (.ofNat row.length) 14 with
    | false=>rw[C] at h;cases h
    | true=>
     rw[C] at h;rcases Bool.eq_false_or_eq_true (cX g e pl) with h4 | h4
     ·rw[h4] at h;cases h
     rw[h4] at h;cases h5:D (cu<|eR g tm e fr pl row frow) 0 with
     | false=>rw[h5] at h;cases h
     | true=>
      rw[h5] at h;have F:(some<|eR g tm e fr pl row frow,(0:Int))=(some a,0):=h;have G:eR g tm e fr pl row frow=a:=by cases F;rfl
      subst G;exact⟨tm,row,frow,Z,z,u,C,h4,Z,s5 h5⟩
theorem GH {o:List (List dy)} {e:de} {id:dy} {pl:Int} {k:Nat} (h:bD e=true->e.loc.toNat≠k):(Ie o e id pl)[k]?=o[k]?:=by
 grind [Ie]
theorem ea (x:Int):D x x=true:=by rw[dE];simp
structure Qf {α:Type} (c:α->α->Int):Prop where
 Qh:∀x y,c y x= -c x y
 small:∀x y,-1<=c x y/\c x y<=1
 trans:∀x y z,c x y<=0->c y z<=0->c x z<=0
theorem Qf.pull {α β:Type} {c:α->α->Int} (h:Qf c) (f:β->α):Qf fun x y=>c (f x) (f y):=⟨fun x y=>h.Qh _ _,fun x y=>h.small _ _,fun x y z=>h.trans _ _ _⟩
theorem Pg (a b:Int):(bif D a 0 then b else a)=if a=0 then b else a:=by
 rw[dE]
 simp_all
theorem nJ {α:Type} {l:List α} {ls:List (List α)}:og (l::ls)=l.length+og ls:=by unfold og;simp
theorem Av {t:Nat}:∀{l:List de} {n:Nat},∀p∈gn t l n,∃k,p.1= [.ofNat (t+1),.ofNat (n+k)]/\k<l.length
 | [],_,p,h=>by cases h
 | e::l,n,p,h=>by
  have h':p∈(bif bD e then([.ofNat (t+1),.ofNat n],e.loc)::gn t l (n+1) else gn t l (n+1)):=h
  have key:p∈gn t l (n+1)->∃k,p.1= [.ofNat (t+1),.ofNat (n+k)]/\k<(e::l).length:=fun h=>by
   obtain⟨k,h1,h2⟩:=Av (l:=l) p h;exact⟨k+1,by rw[h1,show n+1+k=n+(k+1) by omega],by rw[List.length_cons];omega⟩
  cases hw:bD e with
  | false=>rw[hw] at h';exact key h'
  | true=>
   rw[hw] at h';rcases mQ_.1 h' with rfl | h'
   ·exact⟨0,Z,by rw[List.length_cons];omega⟩
   exact key h'
theorem As:∀{ls:List (List de)} {t:Nat},∀p∈hU ls t,∃(s k:Nat) (l:List de),p.1= [.ofNat (t+s+1),.ofNat k]/\ls[s]?=some l/\k<l.length
 | [],_,p,h=>by cases h
 | l::ls,t,p,h=>by
  have h':p∈gn t l 0++hU ls (t+1):=h;rcases List.mem_append.1 h' with h' | h'
  ·obtain⟨k,h1,u⟩:=Av p h';exact⟨0,k,l,by rw[h1,nA_],Z,u⟩
  obtain⟨s,k,l',h1,u,z⟩:=As (ls:=ls) p h';exact⟨s+1,k,l',by rw[h1,show t+1+s+1=t+(s+1)+1 by omega],by simpa using u,z⟩
theorem xX:∀{ls:List (List dy)} {loc ln:Nat} {r:List dy} {x:dy},ls[ln]?=some r->x∈r->(x.ints,Int.ofNat (loc+ln))∈nr ls loc
 | [],_,_,_,_,h,_=>by simp at h
 | l::ls,loc,0,r,x,h,hx=>by
  have:l=r:=by simpa using h
  subst this;exact List.mem_append_left _<|List.mem_map.2 ⟨x,hx,Z⟩
 | l::ls,loc,ln+1,r,x,h,hx=>by
  have h':ls[ln]?=some r:=by simpa using h
  have:=xX (loc:=loc+1) h' hx;rw[show loc+1+ln=loc+(ln+1) by omega] at this;exact List.mem_append_right _ this
theorem Mx {g:XG} (h:zl g) {tm ln:Nat} {row:List de} {r:List dy} (hr:g.threads[tm]?=some row) (z:g.order[ln]?=some r):(⟨.ofNat (tm+1),.ofNat row.length⟩:dy)∉r:=fun hx=>by
 have h1:=h.perm.mem_iff.2 (xX (loc:=0) z hx);obtain⟨s,k,l,u,h3,h4⟩:=As _ h1;rw[show 0+s+1=s+1 by omega] at u;have u: [Int.ofNat (tm+1),Int.ofNat row.length]= [.ofNat (s+1),.ofNat k]:=u
 grind
theorem yH {α:Type}:∀{ls:List (List α)} {tm:Nat} {row:List α} {e:α},ls[tm]?=some row->og (ls.set tm (row++[e]))=og ls+1
 | [],_,_,_,h=>by simp at h
 | l::ls,0,row,e,h=>by
  have:l=row:=by simpa using h
  subst this;show og ((l++[e])::ls)=_;rw[nJ,nJ,lA_,List.length_singleton];omega
 | l::ls,tm+1,row,e,h=>by
  have h':ls[tm]?=some row:=by simpa using h
  show og (l::ls.set tm (row++[e]))=_;rw[nJ,nJ,yH h'];omega
def Fg (id:dy) (y:dy):Bool:= !(dq y.ints id.ints)
theorem J0 {id y:dy} (h:y≠id):Fg id y=true:=by
 unfold Fg;rw[dy.same,ni.2 h];rfl
theorem Gn {α:Type} {p:α->Bool} {x:α} (hx:p x=true):∀{a b:List α} {i:Nat},(∀y∈a,p y=false)->rV p (a++x::b) i= .ofNat (i+a.length)
 | [],b,i,_=>by
  show(bif p x then Int.ofNat i else _)=_;rw[hx];rfl
 | y::a,b,i,h=>by
  show(bif p y then Int.ofNat i else rV p (a++x::b) (i+1))=_;rw[h y<|mS_ ..];show rV p (a++x::b) (i+1)=_;rw[Gn hx fun z u=>h z (mC_ _ u),List.length_cons,show i+1+a.length=i+(a.length+1) by omega]
theorem filter_all {id:dy} {l:List dy} (h:id∉l):l.filter (Fg id)=l:=List.filter_eq_self.2 fun y hy=>J0 fun e=>h (e ▸ hy)
theorem EU {id:dy} {a b:List dy} (ha:id∉a) (hb:id∉b):(a++id::b).filter (Fg id)=a++b:=by
 have h:Fg id id=false:=by unfold Fg;rw[dy.same,cL.2 Z];rfl
 grind [filter_all]
theorem Hl {g h:XG} {th pl:Int} {e:de} {fr:dy} (R:gw g th e fr pl=(some h,0)):∃(tm:Nat) (row:List de),th= .ofNat (tm+1)/\g.threads[tm]?=some row/\cu g=0/\cu h=0/\fE h ⟨.ofNat (tm+1),.ofNat row.length⟩=some e/\Ez h=Ez g+1/\
  (bR 0 pl=true->bD e=true/\rV (fun y=>dq (⟨.ofNat (tm+1),.ofNat row.length⟩:dy).ints y.ints) (cC h e.loc) 0=pl)/\(∀id w,fE g id=some w->fE h id=some w)/\
  ∀loc:Nat,loc<g.init.length->(cC h (.ofNat loc)).filter (Fg ⟨.ofNat (tm+1),.ofNat row.length⟩)=cC g (.ofNat loc):=by
 obtain⟨G,tm,row,frow,rfl,z,q1,l1,u,rfl,ch⟩:=ka R;have rg:=iA.1 G;have e1:D (cu g) 0=true:=by rw[G];rfl
 have K:D (cu<|eR g tm e fr pl row frow) 0=true:=by rw[ch];rfl
 have L:∀(ln:Nat) (r:List dy),g.order[ln]?=some r->(⟨.ofNat (tm+1),.ofNat row.length⟩:dy)∉(⟨0,.ofNat ln⟩:dy)::r:=fun ln r A hm=>by
  rcases mQ_.1 hm with hm | hm
  ·grind
  exact Mx rg z A hm
 have C:bD e=true->∃(ln pm:Nat) (r:List dy),e.loc= .ofNat ln/\pl= .ofNat (pm+1)/\g.order[ln]?=some r/\pm<=r.length/\cC (eR g tm e fr pl row frow) (.ofNat ln)=(⟨0,.ofNat ln⟩::r.take pm)++⟨.ofNat (tm+1),.ofNat row.length⟩::r.drop pm:=fun hw=>by
  obtain⟨ln,r,h1,F,Q⟩:=ma u hw;unfold cX at u;rw[hw] at u;have u:(bif bR pl 1 then true else bR (.ofNat (cC g e.loc).length) pl)=false:=u;cases h4:bR pl 1 with
  | true=>simp_all
  | false=>
   rw[h4] at u;obtain⟨pm,rfl⟩:=pK h4;have h5:bR (.ofNat (cC g e.loc).length) (.ofNat (pm+1))=false:=u;have h6:=br h5;refine⟨ln,pm,r,h1,Z,F,by omega,?_⟩
   have M:(eR g tm e fr (.ofNat (pm+1)) row frow).order[ln]?=some (r.take pm++⟨.ofNat (tm+1),.ofNat row.length⟩::r.drop pm):=by
    rw[tw hw h1 F]
    grind
   rw[eG K M];rfl
 refine⟨tm,row,Z,z,G,ch,Jt z Z,?_,fun hp=>?_,fun id w hw=>Ju z Z Z hw,fun loc E=>?_⟩
 ·unfold Ez;rw[e1,K];show g.init.length+og (g.threads.set tm (row++[e]))=g.init.length+og g.threads+1;rw[yH z];omega
 ·have hw:bD e=true:=by
   cases hw:bD e with
   | true=>rfl
   | false=>
    unfold cX at u;rw[hw] at u;have u:(!D pl 0)=false:=u;have:=s5 (eU u);subst this;cases hp
  refine⟨hw,?_⟩;obtain⟨ln,pm,r,h1,rfl,Q,h4,h5⟩:=C hw;rw[h1,h5,Gn (p:=fun y:dy=>dq (⟨.ofNat (tm+1),.ofNat row.length⟩:dy).ints y.ints) (cL.2 Z) fun y hy=>ni.2 fun he=>?_]
  ·simp_all
  have aa:y=(⟨.ofNat (tm+1),.ofNat row.length⟩:dy):=by
   have:dq y.ints (⟨.ofNat (tm+1),.ofNat row.length⟩:dy).ints=true:=cL.2 he.symm;rw[dy.same] at this;exact cL.1 this
  grind
 obtain⟨r,A⟩:=cq (show loc<g.order.length by rw[rg.order];exact E);rw[eG e1 A]
 by_cases hw:bD e=true/\e.loc.toNat=loc
 ·obtain⟨ln,pm,r',h1,rfl,Q,h4,h5⟩:=C hw.1
  grind [EU,List.take_append_drop]
 have M:(eR g tm e fr pl row frow).order[loc]?=some r:=by
  show(Ie g.order e ⟨.ofNat (tm+1),.ofNat row.length⟩ pl)[loc]?=_;rw[GH fun h1 F=>hw ⟨h1,F⟩,A]
 rw[eG K M,filter_all<|L loc r A]
def nR:List Nat->Nat->Option Nat
 | [],n=>some n
 | c::r,n=>if 48<=c/\c<=57 then nR r (10*n+(c-48)) else none
def iT (s:List Nat):Option Nat:=if s.length=0∨4<s.length∨(1<s.length/\s[0]?=some 48) then none else nR s 0
theorem mg {s:List Nat} {i c n:Nat} (h:s[i]?=some c) (hc:¬(48<=c/\c<=57)):nR (s.drop i) n=none:=by
 rw[cO h];show(if _ then _ else _)=_;rw[if_neg hc]
theorem qo {s:List Nat} {i c n:Nat} (h:s[i]?=some c) (hc:48<=c/\c<=57):nR (s.drop i) n=nR (s.drop (i+1)) (10*n+(c-48)):=by
 rw[cO h];show(if _ then _ else _)=_;rw[if_pos hc]
theorem qn {s:List Nat} {i n:Nat} (h:s.length<=i):nR (s.drop i) n=some n:=by rw[ff h];rfl
theorem eqv {a b:Int} (h:D a b=true):a=b:=by rw[dE] at h;simp_all
def pS (b:Bool):Int:=bif b then 1 else 0
def IX (f:BitVec 64->BitVec 64->BitVec 64) (a b:Int):Int:=wr .i64 (IntKind.u64.wrap (f (BitVec.ofInt 64<|wr .u64 a)<|BitVec.ofInt 64<|wr .u64 b).toNat)
def qc (op a:Int):Int:=bif D op 3 then wr .i64 (wr .u64<|Int.sub 0<|wr .u64 a) else pS (D a 0)
def iI (op a b:Int):Int:=
 bif D op 5 then pS (bif bd (D a 0) then true else bd (D b 0)) else
 bif D op 6 then pS (bif bd (D a 0) then bd (D b 0) else false) else
 bif D op 7 then pS (D a b) else
 bif D op 8 then pS (bd<|D a b) else
 bif D op 9 then pS (bR a b) else
 bif D op 10 then pS (bd<|bR b a) else
 bif D op 11 then IX (· ||| ·) a b else
 bif D op 12 then IX (· ^^^ ·) a b else
 bif D op 13 then IX (· &&& ·) a b else
 bif D op 14 then wr .i64 (wr .u64<|Int.add (wr .u64 a)<|wr .u64 b) else
 bif D op 15 then wr .i64 (wr .u64<|Int.sub (wr .u64 a)<|wr .u64 b) else
 wr .i64 (wr .u64<|Int.mul (wr .u64 a)<|wr .u64 b)
def jn (op:Int) (l:List Int):Int×Int:=
 bif (bif (bif D op 3 then true else D op 4) then D (.ofNat l.length) 1 else false) then(qc op ((l[0]?).getD 0),0) else
 bif (bif (bif bd (bR op 5) then bd (bR 16 op) else false) then D (.ofNat l.length) 2 else false) then(iI op ((l[0]?).getD 0) ((l[1]?).getD 0),0) else(0,2)
def Qn (op:Int) (l:List Int):Int:=(jn op l).1
def eQ (bc:List Int):Nat->XE->Int
 | 0,_=>0
 | k+1,.mk op num name kids=>bif D op 1 then num else bif D op 2 then(bc[(iT name).getD 0]?).getD 0 else Qn op (kids.map<|eQ bc k)
def ga (op:Int):Int:=bif (bif D op 3 then true else D op 4) then 1 else 2
def eo (bc:Int):Nat->XE->Bool
 | 0,_=>false
 | k+1,.mk op num name kids=>
  bif D op 1 then(bif bd (bR num 0) then(bif gY name [] then D (.ofNat kids.length) 0 else false) else false) else
  bif D op 2 then(match iT name with | some n=>(bif bR (.ofNat n) bc then(bif D num 0 then D (.ofNat kids.length) 0 else false) else false) | none=>false) else
  bif (bif (bif D op 3 then true else D op 4) then false else(bif bR op 5 then true else bR 16 op)) then false else
  bif (bif bd (D num 0) then true else bif bd (gY name []) then true else bd (D (.ofNat kids.length)<|ga op)) then false else
  kids.all (eo bc k)
def iG (f:XE->Int->Option Int):List XE->Int->Option Int
 | [],m=>some m
 | x::r,m=>(f x m).bind (iG f r)
def lT:Nat->XE->Int->Int->Option Int
 | 0,_,_,_=>none
 | k+1,.mk _ _ _ kids,deep,size=>bif (bif bR 2000 (wr .i64<|Int.add size 1) then true else bR 32 deep) then none else iG (fun x m=>lT k x (wr .i64<|Int.add deep 1) m) kids (wr .i64<|Int.add size 1)
theorem vN {f:XE->Int->Option Int} {l:List XE} {i:Nat} {m:Int} {x:XE} (hx:l[i]?=some x) (h:(f x m).isSome=false):iG f (l.drop i) m=none:=by
 rw[cO hx];show(f x m).bind _=none
 simp_all
theorem Dy {f:XE->Int->Option Int} {l:List XE} {i:Nat} {m s:Int} {x:XE} (hx:l[i]?=some x) (h:f x m=some s):iG f (l.drop i) m=iG f (l.drop (i+1)) s:=by
 rw[cO hx];show(f x m).bind _=_;rw[h];rfl
theorem yz {f:XE->Int->Option Int} {l:List XE} {i:Nat} {m:Int} (h:l.length<=i):iG f (l.drop i) m=some m:=by rw[ff h];rfl
structure lf where
 qd:Bool
 loc:Bool
 order:Bool
 to:Bool
 exprs:Nat
def jC:List lf:=[⟨false,false,false,false,0⟩,⟨true,false,false,false,1⟩,⟨true,true,true,false,0⟩,⟨false,true,true,false,1⟩,⟨true,true,true,false,2⟩,⟨true,true,true,false,1⟩,⟨true,true,true,false,1⟩,⟨false,false,true,false,0⟩,⟨false,false,false,false,1⟩,⟨false,false,false,false,1⟩,⟨false,false,false,true,0⟩,⟨false,false,false,true,1⟩,⟨false,false,false,false,0⟩,⟨false,false,false,false,0⟩]
def fU (n least most:Int) (must:Bool):Bool:=bif must then(bif bd (bR n least) then bR n most else false) else D n 0
def gO (bc nins:Int) (k:Nat) (x:XI) (h:lf):Bool:=
 bif bd (fU x.qd 0 bc h.qd) then false else bif bd (fU x.loc 0 6 h.loc) then false else bif bd (fU x.order 1 7 h.order) then false else bif bd (fU x.to 0 nins h.to) then false else
 bif bd (D (.ofNat x.exprs.length) (.ofNat h.exprs)) then false else x.exprs.all (eo bc k)
def fT (bc nins:Int) (k:Nat) (x:XI):Bool:=
 bif bR x.kind 1 then false else bif bR 13 x.kind then false else
 match jC[x.kind.toNat]? with
 | some h=>gO bc nins k x h
 | none=>false
def uQ (k:Nat) (x:XI):Bool:=x.exprs.all fun e=>(lT k e 1 0).isSome
def gL (x:XI):Bool:=bif D x.kind 10 then true else bif D x.kind 12 then true else D x.kind 13
def cS (k:Nat) (c:XC):Int:=
 bif bR 16 c.bc then 3 else bif bR 4000 (.ofNat c.ins.length) then 3 else
 bif bd (c.ins.all<|uQ k) then 3 else
 bif bR c.bc 0 then 2 else bif D (.ofNat c.ins.length) 0 then 2 else
 bif bd (c.ins.all<|fT c.bc (.ofNat c.ins.length) k) then 2 else
 match c.ins[c.ins.length-1]? with
 | some x=>bif gL x then 0 else 2
 | none=>2
def fw (x:XI) (at_:Nat):List Int:=
 bif D x.kind 10 then [x.to] else bif D x.kind 11 then [.ofNat (at_+1),x.to] else bif D x.kind 12 then [] else bif D x.kind 13 then [] else [.ofNat (at_+1)]
def cV (c:XC) (i:Nat):List Nat:=match c.ins[i]? with | some x=>(fw x i).map Int.toNat | none=>[]
structure DS where
 st:List Nat
 gone:List Nat
 out:List Nat
 path:List Nat
def kK (nx:Nat->List Nat) (s:DS) (at_:Nat):Option DS:=
 let g:=(s.gone[at_]?).getD 0
 match(nx at_)[g]? with
 | none=>some {s with st:=s.st.set at_ 2,out:=s.out++[at_],path:=s.path.dropLast}
 | some to=>
  let s':={s with gone:=s.gone.set at_ (g+1)}
  if(s.st[to]?).getD 0=2 then some s' else if(s.st[to]?).getD 0=1 then none else some {s' with st:=s.st.set to 1,path:=s.path++[to]}
def wZ (nx:Nat->List Nat):Nat->DS->Option (List Nat)
 | 0,_=>none
 | f+1,s=>match s.path.getLast? with
  | none=>some s.out
  | some at_=>(kK nx s at_).bind (wZ nx f)
def yZ (n:Nat):DS:=⟨(List.replicate n 0).set 0 1,List.replicate n 0,[],[0]⟩
def total (nx:Nat->List Nat) (n:Nat):Nat:=((List.range n).map fun i=>(nx i).length).sum
def eF (c:XC):Option (List Nat):=wZ (cV c) (2*total (cV c) c.ins.length+2) (yZ c.ins.length)
def gU (k:Nat) (c:XC):Bool:=bif bd (D (cS k c) 0) then false else(eF c).isSome
structure Nj (nx:Nat->List Nat) (n:Nat) (s:DS):Prop where
 Ls:s.st.length=n
 tv:s.gone.length=n
 gone:∀(i g:Nat),s.gone[i]?=some g->g<=(nx i).length
 path:∀i∈s.path,i<n/\s.st[i]?=some 1
 out:∀i∈s.out,i<n
 nodup:s.path.Nodup
 fresh:∀(i g:Nat),s.st[i]?=some 0->s.gone[i]?=some g->g=0
 done:∀(i:Nat),s.st[i]?=some 2->i∈s.out
 nc:∀(k i:Nat),s.out[k]?=some i->∀to∈nx i,∃k',k'<k/\s.out[k']?=some to
 ways:∀(j p g:Nat),s.path[j]?=some p->s.gone[p]?=some g->∀(m to:Nat),m<g->(nx p)[m]?=some to->to∈s.out∨s.path[j+1]?=some to
 zero:0∈s.out∨0∈s.path
 size:∀(i g:Nat),s.st[i]?=some g->g<=2
def js (nx:Nat->List Nat) (n:Nat) (s:DS):Nat:=2*(total nx n-s.gone.sum)+s.path.length
section
variable {nx:Nat->List Nat} {n:Nat} {s s':DS}
theorem G2:∀{l:List Nat} {i g g':Nat},l[i]?=some g->(l.set i g').sum+g=l.sum+g'
 | [],_,_,_,h=>by simp at h
 | x::l,0,g,g',h=>by
  simp only[List.getElem?_cons_zero,oJ_] at h;subst h;simp only[List.set_cons_zero,List.sum_cons];omega
 | x::l,i+1,g,g',h=>by
  have:=G2 (l:=l) (i:=i) (g:=g) (g':=g') (by simpa using h);simp only[List.set_cons_succ,List.sum_cons];omega
theorem G0 {f:Nat->Nat}:∀(l:List Nat) (k:Nat),(∀i g,l[i]?=some g->g<=f (k+i))->l.sum<=((List.range' k l.length).map f).sum
 | [],_,_=>by simp
 | x::l,k,h=>by
  have h0:=h 0 x Z;have:=G0 l (k+1) (fun i g u=>by have:=h (i+1) g (by simpa using u);rwa[show k+1+i=k+(i+1) by omega]);simp only[List.length_cons,List.range'_succ,List.map_cons,List.sum_cons]
  grind
theorem uq (u:0<n):Nj nx n (yZ n) where
 Ls:=by simp[yZ]
 tv:=by simp[yZ]
 gone i g hg:=by
  have:g=0:=by
   have:=gB_ hg;exact eR_ this
  omega
 path i hi:=by
  obtain rfl:i=0:=by simpa [yZ] using hi
  exact⟨u,by simp[yZ,u]⟩
 out i hi:=by simp[yZ] at hi
 nodup:=by simp[yZ]
 fresh i g _ hg:=eR_ (gB_ hg)
 done i hi:=by
  exfalso;have hi:((List.replicate n 0).set 0 1)[i]?=some 2:=hi
  grind
 nc k i hk:=by simp[yZ] at hk
 ways j p g hj hg m to hm:=by
  have:g=0:=eR_ (gB_ hg);omega
 zero:=.inr (by simp[yZ])
 size i g hg:=by
  have hi:((List.replicate n 0).set 0 1)[i]?=some g:=hg
  grind
theorem Gw:js nx n (yZ n)=2*total nx n+1:=by
 have:(yZ n).gone.sum=0:=by
  have:∀m,(List.replicate m 0).sum=0:=by simp_all
  exact this n
 unfold js;rw[this];rfl
theorem J8 {l:List Nat} {a:Nat} {P:List Nat} (h:l.Nodup) (hl:l=P++[a]) {j:Nat} (hj:l[j]?=some a):j=P.length:=by
 grind
theorem ou (h:Nj nx n s) (ap:∀i,i<n->∀to∈nx i,to<n) {a:Nat} (ha:s.path.getLast?=some a) (C:kK nx s a=some s'):Nj nx n s'/\js nx n s'+1<=js nx n s/\s'.out.length+js nx n s'<=s.out.length+js nx n s:=by
 obtain⟨P,W⟩:=List.getLast?_eq_some_iff.1 ha;have X:a∈s.path:=by rw[W];simp
 obtain⟨aa,aq⟩:=h.path a X;obtain⟨g,hg⟩:∃g,s.gone[a]?=some g:=⟨_,gC (by rw[h.tv];exact aa)⟩
 have a3:∀i∈P,i≠a:=fun i hi hh=>by
  have:=h.nodup;grind
 have ar:s.path[P.length]?=some a:=by rw[W];simp
 have a4:s.path[P.length+1]?=none:=by rw[W];simp
 unfold kK at C;rw[hg] at C;simp only[Option.getD_some] at C;cases E:(nx a)[g]? with
 | none=>
  rw[E] at C;simp only[oJ_] at C;subst C;have hle:(nx a).length<=g:=List.getElem?_eq_none_iff.1 E;have M:s.path.dropLast=P:=by rw[W];simp
  refine⟨⟨by simp[h.Ls],h.tv,h.gone,?_,?_,?_,?_,?_,?_,?_,?_,?_⟩,?_,?_⟩
  ·intro i hi;have hi:i∈P:=by simp_all
   have:=h.path i (by rw[W];simp[hi])
   grind
  ·intro i hi;rcases List.mem_append.1 hi with hi | hi
   ·exact h.out i hi
   simp_all
  ·show s.path.dropLast.Nodup;rw[M];have:=h.nodup;grind
  ·intro i g' h1 Q
   by_cases e:i=a
   ·grind
   have h1:(s.st.set a 2)[i]?=some 0:=h1;rw[List.getElem?_set_ne (fun x=>e x.symm)] at h1;exact h.fresh i g' h1 Q
  ·intro i hi;show i∈s.out++[a]
   by_cases e:i=a
   ·subst e;simp
   have hi:(s.st.set a 2)[i]?=some 2:=hi;rw[List.getElem?_set_ne (fun x=>e x.symm)] at hi;exact List.mem_append_left _<|h.done i hi
  ·intro k i hk to K;have hk:(s.out++[a])[k]?=some i:=hk;show∃k',k'<k/\(s.out++[a])[k']?=some to
   by_cases ab:k<s.out.length
   ·rw[gL_ ab] at hk;obtain⟨k',h1,Q⟩:=h.nc k i hk to K;exact⟨k',h1,by grind⟩
   have hlt':=(gA.1 hk).1;simp only[lA_,List.length_singleton] at hlt';obtain rfl:k=s.out.length:=by omega
   have aK:i=a:=by simpa using hk.symm
   subst aK;obtain⟨m,hm⟩:=gO_ K;have hm':=(gA.1 hm).1;rcases h.ways _ _ _ ar hg m to B hm with h1 | h1
   ·grind [gO_]
   simp_all
  ·intro j p g' hj z m to hm A;have hj:s.path.dropLast[j]?=some p:=hj;rw[M] at hj;have hjl:=(gA.1 hj).1;show to∈s.out++[a]∨s.path.dropLast[j+1]?=some to;rcases h.ways j p g' (by grind) z m to hm A with h1 | h1
   ·simp_all
   grind
  ·show 0∈s.out++[a]∨0∈s.path.dropLast;rw[M];rcases h.zero with h1 | h1
   ·simp_all
   grind
  ·intro i g' hi;have hi:(s.st.set a 2)[i]?=some g':=hi;rw[List.getElem?_set] at hi;split at hi
   ·simp_all
   exact h.size i g' hi
  ·grind [js]
  grind [js]
 | some to=>
  rw[E] at C;dsimp only at C;have a5:g<(nx a).length:=(gA.1 E).1;have ac:to<n:=ap a aa to (gB_ E);obtain⟨v,hv⟩:∃v,s.st[to]?=some v:=⟨_,gC (by rw[h.Ls];exact ac)⟩;rw[hv] at C;simp only[Option.getD_some] at C
  have F:∀(i g':Nat),(s.gone.set a (g+1))[i]?=some g'->g'<=(nx i).length:=fun i g' hi=>by
   rw[List.getElem?_set] at hi;split at hi
   ·grind
   exact h.gone i g' hi
  have hsum:=G2 (l:=s.gone) (i:=a) (g:=g) (g':=g+1) hg
  have ab:(s.gone.set a (g+1)).sum<=total nx n:=by
   have:=G0 (f:=fun i=>(nx i).length) (s.gone.set a (g+1)) 0 (fun i g' z=>by simp_all);rw[List.length_set,h.tv] at this;unfold total;rwa[List.range_eq_range']
  have u:∀(p g':Nat),p≠a->(s.gone.set a (g+1))[p]?=some g'->s.gone[p]?=some g':=fun p g' hp z=>by
   grind
  have G:∀(g':Nat),(s.gone.set a (g+1))[a]?=some g'->g'=g+1:=fun g' z=>by
   grind
  split at C
  ·rename_i ae;subst ae;simp only[oJ_] at C;subst C;refine⟨⟨h.Ls,by simp[h.tv],F,h.path,h.out,h.nodup,?_,h.done,h.nc,?_,h.zero,h.size⟩,?_,?_⟩
   ·intro i g' h1 Q;refine h.fresh i g' h1<|u i g' (fun e=>?_) Q
    simp_all
   ·intro j p g' hj z m to' hm A
    by_cases hp:p=a
    ·subst hp;obtain rfl:=G g' z
     by_cases R:m<g
     ·exact h.ways j p g hj hg m to' R A
     obtain rfl:m=g:=by omega
     rw[E] at A;cases A;exact .inl<|h.done _ hv
    exact h.ways j p g' hj (u p g' hp z) m to' hm A
   ·unfold js;dsimp only;omega
   unfold js;dsimp only;omega
  split at C
  ·cases C
  rename_i ae a6;simp only[oJ_] at C;subst C;have a0:v=0:=by have:=h.size to v hv;omega
  subst a0;have am:to∉s.path:=fun hh=>by have:=(h.path to hh).2;simp_all
  have a1:to≠a:=fun e=>am (by rw[e];exact X)
  have L:∀i,i≠to->(s.st.set to 1)[i]?=s.st[i]?:=fun i hi=>List.getElem?_set_ne (fun e=>hi e.symm)
  refine⟨⟨by simp[h.Ls],by simp[h.tv],F,?_,h.out,?_,?_,?_,h.nc,?_,?_,?_⟩,?_,?_⟩
  ·intro i hi;rcases List.mem_append.1 hi with hi | hi
   ·obtain⟨h1,Q⟩:=h.path i hi
    grind
   grind
  ·show(s.path++[to]).Nodup;refine List.nodup_append.2 ⟨h.nodup,by simp,fun x hx y hy=>?_⟩
   grind
  ·intro i g' h1 Q
   by_cases e:i=to
   ·grind
   have h1b:(s.st.set to 1)[i]?=some 0:=h1;rw[L i e] at h1b;refine h.fresh i g' h1b<|u i g' (fun e=>?_) Q
   simp_all
  ·intro i hi
   by_cases e:i=to
   ·grind
   have hi:(s.st.set to 1)[i]?=some 2:=hi;rw[L i e] at hi;exact h.done i hi
  ·intro j p g' hj z m to' hm A;have ao:(s.path++[to])[j]?=some p:=hj;clear hj;have hj:=ao;clear ao;show to'∈s.out∨(s.path++[to])[j+1]?=some to'
   by_cases hjl:j<s.path.length
   ·rw[gL_ hjl] at hj
    by_cases hp:p=a
    ·subst hp;obtain rfl:=G g' z;have hjP:=J8 h.nodup W hj
     by_cases R:m<g
     ·rcases h.ways j p g hj hg m to' R A with h1 | h1
      ·exact .inl h1
      simp_all
     grind
    rcases h.ways j p g' hj (u p g' hp z) m to' hm A with h1 | h1
    ·exact .inl h1
    grind
   have hlt':=(gA.1 hj).1;simp only[lA_,List.length_singleton] at hlt';obtain rfl:j=s.path.length:=by omega
   have a2:to=p:=by simpa using hj
   subst a2;have:=h.fresh to g' hv (u to g' a1 z);omega
  ·rcases h.zero with h1 | h1
   ·exact .inl h1
   grind
  ·intro i g' hi;have hi:(s.st.set to 1)[i]?=some g':=hi;rw[List.getElem?_set] at hi;split at hi
   ·grind
   exact h.size i g' hi
  ·grind [js]
  grind [js]
structure eN (nx:Nat->List Nat) (n:Nat) (out:List Nat):Prop where
 ze:∀(k i:Nat),out[k]?=some i->∀to∈nx i,∃k',k'<k/\out[k']?=some to
 zero:0∈out
 lt:∀i∈out,i<n
theorem pk (u:∀i,i<n->∀to∈nx i,to<n):∀{f:Nat} {s:DS} {out:List Nat},Nj nx n s->wZ nx f s=some out->eN nx n out
 | 0,_,_,_,h=>by cases h
 | f+1,s,out,hw,h=>by
  unfold wZ at h;cases hl:s.path.getLast? with
  | none=>
   rw[hl] at h;simp only[oJ_] at h;subst h;have:s.path= []:=List.getLast?_eq_none_iff.1 hl;exact⟨hw.nc,by rcases hw.zero with h1 | h1;exact h1;rw[this] at h1;simp at h1,hw.out⟩
  | some a=>
   rw[hl] at h;dsimp only at h;cases z:kK nx s a with
   | none=>rw[z] at h;cases h
   | some s'=>rw[z] at h;exact pk u (ou hw u hl z).1 h
end
structure TS where
 at_:Nat
 bc:List Int
 events:List de
 asked:Nat
 fin:Int
 asks:Bool
def fW (k:Nat) (bc:List Int) (x:XI) (i:Nat):Int:=((x.exprs[i]?).map<|eQ bc k).getD 0
def dS (k:Nat) (x:XI) (s:TS):TS×Bool:=
 bif D x.kind 1 then({s with bc:=s.bc.set x.qd.toNat (fW k s.bc x 0),at_:=s.at_+1},true) else
 bif D x.kind 3 then({s with events:=s.events++[⟨2,x.loc,x.order,0,fW k s.bc x 0⟩],at_:=s.at_+1},true) else
 bif D x.kind 7 then({s with events:=s.events++[⟨4,0,x.order,0,0⟩],at_:=s.at_+1},true) else
 bif D x.kind 8 then(bif D (fW k s.bc x 0) 0 then({s with fin:=2},false) else({s with at_:=s.at_+1},true)) else
 bif D x.kind 9 then(bif D (fW k s.bc x 0) 0 then({s with fin:=3},false) else({s with at_:=s.at_+1},true)) else
 bif D x.kind 10 then({s with at_:=x.to.toNat},true) else
 bif D x.kind 11 then(bif D (fW k s.bc x 0) 0 then({s with at_:=x.to.toNat},true) else({s with at_:=s.at_+1},true)) else
 bif D x.kind 12 then({s with fin:=4},false) else
 bif D x.kind 13 then({s with fin:=1},false) else
 ({s with asks:=true},false)
def cr (k:Nat) (c:XC) (s:TS):TS×Bool:=match c.ins[s.at_]? with | some x=>dS k x s | none=>(s,false)
def vX (k:Nat) (c:XC):Nat->TS->TS
 | 0,s=>s
 | f+1,s=>bif (cr k c s).2 then vX k c f (cr k c s).1 else(cr k c s).1
def jP (c:XC):Nat:=((eF c).getD []).length
def ke (k:Nat) (c:XC):TS:=vX k c (jP c) ⟨0,List.replicate c.bc.toNat 0,[],0,0,false⟩
structure rT where
 kind:Int
 loc:Int
 order:Int
 a:Int
 b:Int
def rT.ints (x:rT):List Int:=[x.kind,x.loc,x.order,x.a,x.b]
def yX (k:Nat) (x:XI) (bc:List Int):rT:=⟨x.kind,x.loc,x.order,fW k bc x 0,fW k bc x 1⟩
def lF (k:Nat) (c:XC) (s:TS):rT:=match c.ins[s.at_]? with | some x=>yX k x s.bc | none=>⟨0,0,0,0,0⟩
def bT (a:rT) (v:Int):de:=
 bif D a.kind 2 then⟨1,a.loc,a.order,v,0⟩ else
 bif D a.kind 4 then(bif D v a.a then⟨3,a.loc,a.order,v,a.b⟩ else⟨1,a.loc,a.order,v,0⟩) else
 bif D a.kind 5 then⟨3,a.loc,a.order,v,wr .i64<|wr .u64<|Int.add (wr .u64 v)<|wr .u64 a.a⟩ else
 bif D a.kind 6 then⟨3,a.loc,a.order,v,a.a⟩ else⟨0,0,0,0,0⟩
def ia (a:rT):Int:=bif D a.kind 2 then 0 else bif D a.kind 4 then 0 else bif D a.kind 5 then 0 else bif D a.kind 6 then 0 else 2
def GO (c:XC) (s:TS):Nat:=match c.ins[s.at_]? with | some x=>x.qd.toNat | none=>0
def eH (k:Nat) (c:XC) (s:TS) (v:Int):TS:=
 {s with events:=s.events++[bT (lF k c s) v],bc:=s.bc.set (GO c s) v,asked:=s.asked+1,at_:=s.at_+1,asks:=false}
def ez (k:Nat) (c:XC) (s:TS) (v:Int):TS:=vX k c (jP c) (eH k c s v)
def kI (k:Nat) (c:XC):List Int->TS->TS
 | [],s=>s
 | v::r,s=>bif s.asks then kI k c r (ez k c s v) else s
def dj (l:List de):List Int:=(l.filter dR).map de.read
def gN (k:Nat) (c:XC) (a:List Int):TS:=kI k c a (ke k c)
def pX (s:TS) (l:List de):Bool:=bif bR (.ofNat s.events.length) (.ofNat l.length) then false else dq (s.events.take l.length) l
def fQ (k:Nat) (c:XC):Int:=bif gU k c then 0 else bif bd (D (cS k c) 0) then cS k c else 2
structure jk where
 event:de
 ask:rT
 fin:Int
def lK:de:=⟨0,0,0,0,0⟩
def gz:rT:=⟨0,0,0,0,0⟩
def uG:jk:=⟨lK,gz,0⟩
def iL (k:Nat) (c:XC) (s:TS) (l:List de):jk×Int:=
 bif bd (pX s l) then(uG,2) else
 match s.events[l.length]? with
 | some e=>(⟨e,gz,0⟩,0)
 | none=>bif s.asks then(⟨lK,lF k c s,0⟩,0) else(⟨lK,gz,s.fin⟩,0)
def bM (k:Nat) (c:XC) (l:List de):jk×Int:=
 bif bd (D (fQ k c) 0) then(uG,fQ k c) else iL k c (gN k c<|dj l) l
structure eK (k:Nat) (c:XC):Prop where
 Ac:0<=c.bc
 yq:c.bc<=16
 len:c.ins.length<=4000
 pos:0<c.ins.length
 right:∀x∈c.ins,fT c.bc (.ofNat c.ins.length) k x=true
 last:∀x,c.ins[c.ins.length-1]?=some x->gL x=true
theorem ph {k:Nat} {c:XC} (h:cS k c=0):eK k c:=by
 unfold cS at h;cases h1:bR 16 c.bc with
 | true=>rw[h1] at h;cases h
 | false=>
 rw[h1] at h;cases u:bR 4000 (.ofNat c.ins.length) with
 | true=>rw[u] at h;cases h
 | false=>
 rw[u] at h;cases z:bd (c.ins.all<|uQ k) with
 | true=>rw[z] at h;cases h
 | false=>
 rw[z] at h;cases h4:bR c.bc 0 with
 | true=>rw[h4] at h;cases h
 | false=>
 rw[h4] at h;cases h5:D (.ofNat c.ins.length) 0 with
 | true=>rw[h5] at h;cases h
 | false=>
 rw[h5] at h;cases h6:bd (c.ins.all<|fT c.bc (.ofNat c.ins.length) k) with
 | true=>rw[h6] at h;cases h
 | false=>
 rw[h6] at h;simp only[cond_false] at h;rw[fo,decide_eq_false_iff_not] at h1 u h4;have u:¬(4000:Int)<(c.ins.length:Int):=u
 have hp:0<c.ins.length:=by
  grind
 refine⟨by omega,by omega,by omega,hp,fun x hx=>?_,fun x hx=>?_⟩
 ·have h6:=bn h6
  simp_all
 grind
theorem iX {bc nins:Int} {k:Nat} {x:XI} (h:fT bc nins k x=true):∃(n:Nat) (sh:lf),x.kind= .ofNat n/\1<=n/\n<=13/\jC[n]?=some sh/\gO bc nins k x sh=true:=by
 unfold fT at h;cases h1:bR x.kind 1 with
 | true=>rw[h1] at h;cases h
 | false=>
 rw[h1] at h;cases u:bR 13 x.kind with
 | true=>rw[u] at h;cases h
 | false=>
 rw[u] at h;simp only[cond_false] at h;rw[fo,decide_eq_false_iff_not] at h1 u
 grind
theorem lN {n least most:Int} (h:fU n least most true=true):least<=n/\n<most:=by
 unfold fU at h;simp only[cond_true] at h;cases h1:bR n least with
 | true=>rw[h1] at h;cases h
 | false=>
 rw[h1] at h;have h:bR n most=true:=h;rw[fo,decide_eq_false_iff_not] at h1;rw[fo,decide_eq_true_iff] at h;omega
structure Lt (bc nins:Int) (k:Nat) (x:XI) (sh:lf):Prop where
 qd:fU x.qd 0 bc sh.qd=true
 loc:fU x.loc 0 6 sh.loc=true
 order:fU x.order 1 7 sh.order=true
 to:fU x.to 0 nins sh.to=true
 exprs:x.exprs.length=sh.exprs
 all:∀e∈x.exprs,eo bc k e=true
theorem ig {bc nins:Int} {k:Nat} {x:XI} {sh:lf} (h:gO bc nins k x sh=true):Lt bc nins k x sh:=by
 unfold gO at h;cases h1:fU x.qd 0 bc sh.qd with
 | false=>rw[h1] at h;cases h
 | true=>
 cases u:fU x.loc 0 6 sh.loc with
 | false=>rw[h1,u] at h;cases h
 | true=>
 cases z:fU x.order 1 7 sh.order with
 | false=>rw[h1,u,z] at h;cases h
 | true=>
 cases h4:fU x.to 0 nins sh.to with
 | false=>rw[h1,u,z,h4] at h;cases h
 | true=>
 rw[h1,u,z,h4] at h;have h:(bif bd (D (.ofNat x.exprs.length) (.ofNat sh.exprs)) then false else x.exprs.all (eo bc k))=true:=h;cases h5:D (.ofNat x.exprs.length) (.ofNat sh.exprs) with
 | false=>rw[h5] at h;cases h
 | true=>
 rw[h5] at h;have h:x.exprs.all (eo bc k)=true:=h;rw[fG,decide_eq_true_iff] at h5;exact⟨h1,u,z,h4,h5,aE_.1 h⟩
theorem rG {k:Nat} {c:XC} (h:eK k c):∀i,i<c.ins.length->∀to∈cV c i,to<c.ins.length:=by
 intro i hi to u;unfold cV at u;rw[gC hi] at u;dsimp only at u;have hx:=h.right c.ins[i] (List.getElem_mem hi);have hl:=h.last;generalize aa:c.ins[i]=x at u hx;obtain⟨n,sh,E,n1,C,A,hr⟩:=iX hx;have hr:=ig hr;have hto':=hr.to
 have z:i+1<c.ins.length∨gL x=true:=by
  grind
 unfold fw at u;unfold gL at z;rw[E] at u z;have key:∀m:Nat,m=n->(∀y,(sh.to=true->0<=y/\y<(c.ins.length:Int))->y=x.to->True):=fun _ _ _ _ _=>trivial
 have tole:sh.to=true->0<=x.to/\x.to<(c.ins.length:Int):=fun e=>by rw[e] at hto';exact lN hto'
 match n,n1,C with
 | 1,_,_ | 2,_,_ | 3,_,_ | 4,_,_ | 5,_,_ | 6,_,_ | 7,_,_ | 8,_,_ | 9,_,_=>
  have e:to=i+1:=List.mem_singleton.1 (show to∈[i+1] from u);rcases z with e1 | e1
  ·omega
  cases e1
 | 10,_,_=>
  have e:to=x.to.toNat:=List.mem_singleton.1 (show to∈[x.to.toNat] from u);have:=tole (by cases A;rfl);omega
 | 11,_,_=>
  have e:to=i+1∨to=x.to.toNat:=by grind
  have:=tole (by cases A;rfl);rcases e with e | e
  ·rcases z with e1 | e1
   ·omega
   cases e1
  omega
 | 12,_,_ | 13,_,_=>exact absurd (show to∈([]:List Nat) from u) (by simp)
theorem py {k:Nat} {c:XC} (h:gU k c=true):eK k c/\∃out,eF c=some out/\eN (cV c) c.ins.length out:=by
 unfold gU at h;cases h1:D (cS k c) 0 with
 | false=>rw[h1] at h;cases h
 | true=>
  rw[h1] at h;have h:(eF c).isSome=true:=h;have hc:=ph (s5 h1);obtain⟨out,u⟩:=Option.isSome_iff_exists.1 h;exact⟨hc,out,u,pk (rG hc) (uq hc.pos) u⟩
def db:Nat->XE->Nat
 | 0,_=>0
 | k+1,.mk _ _ _ kids=>(kids.map<|db k).sum+1
def np (l:List Nat):Nat:=l.foldl max 0
def fZ:Nat->XE->Nat
 | 0,_=>0
 | k+1,.mk _ _ _ kids=>np (kids.map<|fZ k)+1
theorem foldl_max:∀(l:List Nat) (m:Nat),l.foldl max m=max m (np l)
 | [],m=>by show m=max m 0;omega
 | a::l,m=>by
  show l.foldl max (max m a)=max m (l.foldl max<|max 0 a);rw[foldl_max l<|max m a,foldl_max l<|max 0 a];omega
theorem H4 (a:Nat) (l:List Nat):np (a::l)=max a (np l):=by
 show l.foldl max (max 0 a)=_;rw[foldl_max];omega
theorem H5 (a:Nat) (l:List Nat):np (l++[a])=max (np l) a:=by unfold np;simp_all
theorem yM {n:Nat} (h:n<=9223372036854775807):wr .i64 (Int.ofNat n)= .ofNat n:=by
 show(bif Nat.ble n 9223372036854775807 then _ else _)=_
 grind [nE_]
theorem Rm {a b c:Bool}:(bif a then b else c)=true↔(a=true->b=true)/\(a=false->c=true):=by cases a<;>simp
theorem Pl {a:Bool}:bd a=true↔a=false:=by cases a<;>simp[bd]
theorem Rv {a:Bool}:bd a=false↔a=true:=by cases a<;>simp[bd]
theorem Rn {a b:Int}:D a b=true↔a=b:=by rw[dE];simp
theorem AM {a b:Int}:D a b=false↔¬a=b:=by rw[dE];simp
theorem Ln {a b:Int}:bR a b=true↔a<b:=by rw[fo];simp
theorem vY {a b:Int}:bR a b=false↔b<=a:=by rw[fo];simp
theorem Ip {k:Nat} {x:XE}:1<=db (k+1) x:=by cases x;show 1<=_+1;omega
theorem Ag {f:XE->Int->Option Int} {g:XE->Nat} {q:XE->Bool}:∀(l:List XE) (m:Nat),m<=2000->(∀x∈l,∀m:Nat,m<=2000->f x (.ofNat m)=if m+g x<=2000/\q x=true then some (.ofNat (m+g x)) else none)->
  iG f l (.ofNat m)=if m+(l.map g).sum<=2000/\l.all q=true then some (.ofNat (m+(l.map g).sum)) else none
 | [],m,hm,_=>by rw[if_pos ⟨by simpa using hm,Z⟩];rfl
 | x::l,m,hm,h=>by
  show(f x (.ofNat m)).bind (iG f l)=_;rw[h x (mS_ ..) m hm];simp only[List.map_cons,List.sum_cons,List.all_cons]
  by_cases h1:m+g x<=2000/\q x=true
  ·rw[if_pos h1];show iG f l (.ofNat (m+g x))=_;rw[Ag l (m+g x) h1.1 (fun y hy=>h y (mC_ _ hy)),h1.2,Nat.add_assoc];simp
  grind
theorem Be {l:List Nat} {B_:Nat}:np l<=B_↔∀x∈l,x<=B_:=by
 induction l with
 | nil=>simp[np]
 | cons a l ih=>rw[H4,Nat.max_le,ih];simp
def ja:Nat->XE->Prop
 | 0,_=>False
 | k+1,.mk _ _ name kids=>name.length<=9223372036854775807/\∀y∈kids,ja k y
theorem Ae:∀(k:Nat) (x:XE) (d m:Nat),ja k x->m<=2000->d<=33->lT k x (.ofNat d) (.ofNat m)=if m+db k x<=2000/\Nat.ble (d+fZ k x) 33=true then some (.ofNat (m+db k x)) else none
 | 0,x,_,_,h,_,_=>h.elim
 | k+1,.mk op num name kids,d,m,hf,hm,hd=>by
  show(bif (bif bR 2000 (wr .i64<|Int.add (.ofNat m) 1) then true else bR 32 (.ofNat d)) then none else iG (fun x m=>lT k x (wr .i64<|Int.add (.ofNat d) 1) m) kids (wr .i64<|Int.add (.ofNat m) 1))=_;rw[show Int.add (.ofNat m) 1= .ofNat (m+1) from Z,show Int.add (.ofNat d) 1= .ofNat (d+1) from Z,yM B,yM B];rw[show db (k+1) (.mk op num name kids)=(kids.map<|db k).sum+1 from Z,show fZ (k+1) (.mk op num name kids)=np (kids.map<|fZ k)+1 from Z]
  by_cases h1:2000<m+1
  ·rw[show bR 2000 (.ofNat (m+1))=true from Ln.2 (by grind)]
   grind
  rw[show bR 2000 (.ofNat (m+1))=false from vY.2 (by grind)]
  by_cases h2:32<d
  ·rw[show bR 32 (.ofNat d)=true from Ln.2 (by grind)];rw[if_neg (by rintro ⟨_,a⟩;have:=Nat.le_of_ble_eq_true a;omega)];rfl
  rw[show bR 32 (.ofNat d)=false from vY.2 (by grind)];show iG _ kids (.ofNat (m+1))=_;rw[Ag (g:=db k) (q:=fun x=>Nat.ble (d+1+fZ k x) 33) kids (m+1) B (fun x hx m' u=>Ae k x (d+1) m' (hf.2 x hx) u B)]
  have e:(kids.all fun x=>Nat.ble (d+1+fZ k x) 33)=Nat.ble (d+(np (kids.map<|fZ k)+1)) 33:=by
   rw[Bool.eq_iff_iff];simp only[aE_,nE_];constructor
   ·intro h
    have:np (kids.map<|fZ k)<=32-d:=Be.2 fun y hy=>by
     grind
    omega
   intro h x hx;have:=Be.1 (nR_<|np<|kids.map<|fZ k) _ (List.mem_map_of_mem hx);omega
  grind
def g9 (k:Nat) (x:XE):Bool:=bif Nat.blt 2000 (db k x) then true else Nat.blt 32 (fZ k x)
theorem yA {k:Nat} {x:XE} (h:ja k x):(lT k x 1 0).isSome=bd (g9 k x):=by
 rw[show lT k x 1 0=lT k x (.ofNat 1) (.ofNat 0) from Z,Ae k x 1 0 h B B];unfold g9
 by_cases h1:2000<db k x
 ·rw[if_neg B,show Nat.blt 2000 (db k x)=true from by simp_all];rfl
 rw[show Nat.blt 2000 (db k x)=false from by rw[Bool.eq_false_iff];simp_all]
 by_cases h2:32<fZ k x
 ·rw[if_neg (by rintro ⟨_,a⟩;have:=Nat.le_of_ble_eq_true a;omega),show Nat.blt 32 (fZ k x)=true from by simp_all];rfl
 rw[if_pos ⟨by omega,by rw[nE_];omega⟩,show Nat.blt 32 (fZ k x)=false from by rw[Bool.eq_false_iff];simp_all];rfl
theorem BT {n:Int} (h:-9223372036854775808<=n) (h2:n<=9223372036854775807):wr .i64 n=n:=by
 cases n with
 | ofNat n=>grind [yM]
 | negSucc n=>
  show(bif Nat.ble (n+1) 9223372036854775808 then _ else _)=_
  grind [nE_]
theorem JM {name:List Nat} {m:Int} (hn:name.length<=9223372036854775807) (h0:0<=m) (h1:m<=100):CS name m=m-1-((name.length/20:Nat):Int):=by
 unfold CS;have e:Int.tdiv (.ofNat<|cY name) 20=((name.length/20:Nat):Int):=by rw[bP];rfl
 have hd:name.length/20<=461168601842738790:=by omega
 rw[e,show Int.sub m 1=m-1 from Z,BT (n:=m-1) B B,BT (n:=((name.length/20:Nat):Int)) B B]
 grind [BT]
theorem CU {f:XE->Int->Int} {g:XE->Nat}:∀(l:List XE) (m:Int),m<=100->(∀x∈l,∀m,0<=m->m<=100->f x m<=m/\(0<=f x m->(g x:Int)+f x m<=m))->nD f l m<=m/\(0<=nD f l m->(((l.map g).sum:Nat):Int)+nD f l m<=m)
 | [],m,_,_=>⟨Int.le_refl _,fun _=>by show((0:Nat):Int)+m<=m;omega⟩
 | x::l,m,hm,h=>by
  show(bif bR m 0 then m else nD f l (f x m))<=m/\(0<=(bif bR m 0 then m else nD f l (f x m))->_+(bif bR m 0 then m else nD f l (f x m))<=m);cases hl:bR m 0 with
  | true=>
   rw[fo,decide_eq_true_iff] at hl
   grind
  | false=>
   rw[fo,decide_eq_false_iff_not] at hl;obtain⟨h1,h2⟩:=h x (mS_ ..) m B hm;obtain⟨h3,h4⟩:=CU l (f x m) B (fun y hy=>h y (mC_ _ hy))
   grind
theorem CT:∀(k:Nat) (x:XE) (m:Int),ja k x->0<=m->m<=100->sg k x m<=m/\(0<=sg k x m->(db k x:Int)+sg k x m<=m)
 | 0,_,_,h,_,_=>h.elim
 | k+1,.mk op num name kids,m,hf,h0,h1=>by
  have e:=JM hf.1 h0 h1;have hd:0<=((name.length/20:Nat):Int):=Int.natCast_nonneg _;obtain⟨h3,h4⟩:=CU (f:=sg k) (g:=db k) kids (CS name m) B (fun x hx m h0 h1=>CT k x m (hf.2 x hx) h0 h1)
  grind [sg,db]
theorem Fb {k:Nat} {x:XE} (hf:ja k x) (h:xM k x 60=true):db k x<=60:=by
 unfold xM at h;have h:=bN h;rw[fo,decide_eq_false_iff_not] at h;have:=(CT k x 60 hf B B).2 B;omega
def Ba (c:Nat):Bool:=bif (bif bd (bR (.ofNat c) 97) then bd (bR 122 (.ofNat c)) else false) then true else bif bd (bR (.ofNat c) 65) then bd (bR 90 (.ofNat c)) else false
def HA (c:Nat):Bool:=bif bd (bR (.ofNat c) 48) then bd (bR 57 (.ofNat c)) else false
def vW (first:Bool) (c:Nat):Bool:=bif Ba c then true else bif first then false else bif HA c then true else bd (bd<|D (.ofNat c) 95)
def dL:Bool->List Nat->Bool
 | _,[]=>true
 | f,c::r=>bif vW f c then dL false r else false
def pZ:List (List Nat):=[[115,104,97,114,101,100],[112,108,97,105,110],[116,104,114,101,97,100],[105,102],[101,108,115,101],[119,104,105,108,101],[108,111,97,100],[115,116,111,114,101],[99,97,115],[97,100,100],[115,119,97,112],[102,101,110,99,101],[97,115,115,117,109,101],[97,115,115,101,114,116],[110,97],[114,108,120],[97,99,113],[114,101,108],[97,114],[115,99]]
def isKey (s:List Nat):Bool:=pZ.any fun k=>gY k s
def kF (s:List Nat):Bool:=bif dL true s then(bif gY s [] then false else bd (isKey s)) else false
theorem sK {s:List Nat} {i c:Nat} (h:s[i]?=some c) (hc:vW (D (.ofNat i) 0) c=true):dL (D (.ofNat i) 0) (s.drop i)=dL (D (.ofNat (i+1)) 0) (s.drop (i+1)):=by
 rw[cO h]
 grind [dL,dE]
theorem wR {s:List Nat} {i c:Nat} (h:s[i]?=some c) (hc:vW (D (.ofNat i) 0) c=false):dL (D (.ofNat i) 0) (s.drop i)=false:=by
 rw[cO h]
 grind [dL]
theorem Hv {s:List Nat} {i:Nat} (h:s.length<=i):dL (D (.ofNat i) 0) (s.drop i)=true:=by rw[ff h];rfl
def gk (s:List Nat) (vs:List V):Prop:=vs= [.str s]
theorem tS {α:Type} {f:α->Nat} {l:List α} {i:Nat} {x:α} (h:l[i]?=some x):((l.take (i+1)).map f).sum=((l.take i).map f).sum+f x:=by
 rw[List.take_add_one,h];simp
theorem JX {α:Type} {f:α->Nat} {l:List α} {i:Nat} {x:α} (h:l[i]?=some x):np ((l.take (i+1)).map f)=max (np ((l.take i).map f)) (f x):=by
 grind [List.take_add_one,H5]
theorem FI {α:Type} {f:α->Nat} {l:List α} {i:Nat}:((l.take i).map f).sum<=(l.map f).sum:=by
 grind [List.take_append_drop]
theorem my {α:Type} {f:α->Nat} {l:List α} {i:Nat} {x:α} (h:l[i]?=some x):f x<=(l.map f).sum:=by
 have h1:=tS (f:=f) h;have h2:=FI (f:=f) (l:=l) (i:=i+1);omega
theorem wq (a b:Nat):(bif bR (.ofNat a) (.ofNat b) then(.ofNat b:Int) else .ofNat a)= .ofNat (max a b):=by
 cases h:bR (.ofNat a) (.ofNat b) with
 | true=>have:=bk h;grind
 | false=>grind [br,Nat.max_eq_left]
theorem zD:∀(k:Nat) (x:XE),fZ k x<=db k x
 | 0,_=>nR_ _
 | k+1,.mk op num name kids=>by
  show np (kids.map<|fZ k)+1<=(kids.map<|db k).sum+1;refine Nat.succ_le_succ<|Be.2 fun y hy=>?_;obtain⟨x,hx,rfl⟩:=List.mem_map.1 hy;obtain⟨i,hi⟩:=gO_ hx;exact Nat.le_trans (zD k x)<|my hi
theorem Cw:∀{s:List Nat} {m n:Nat},nR s m=some n->∀c∈s,48<=c/\c<=57
 | [],_,_,_,c,hc=>by simp at hc
 | a::s,m,n,h,c,hc=>by
  unfold nR at h;split at h
  ·rename_i u;rcases mQ_.1 hc with rfl | hc
   ·exact u
   exact Cw h c hc
  cases h
theorem vn:∀{s:List Nat},(∀c∈s,48<=c/\c<=57)->dL false s=true
 | [],_=>rfl
 | a::s,h=>by
  have ha:=h a (mS_ ..);unfold dL
  have h1:Ba a=false:=by
   unfold Ba;rw[Ln.2 (show(Int.ofNat a)<97 by show(a:Int)<97;omega),Ln.2 (show(Int.ofNat a)<65 by show(a:Int)<65;omega)];rfl
  have u:HA a=true:=by
   unfold HA;rw[vY.2 (show 48<=(Int.ofNat a) by show 48<=(a:Int);omega),vY.2 (show(Int.ofNat a)<=57 by show(a:Int)<=57;omega)];rfl
  have:vW false a=true:=by unfold vW;rw[h1,u];rfl
  rw[this];exact vn fun c hc=>h c (mC_ _ hc)
theorem Ii {s:List Nat} {n:Nat} (h:iT s=some n):kF (114::s)=true/\s≠[]:=by
 unfold iT at h;split at h
 ·cases h
 rename_i z;have hd:=Cw h;have u:s≠[]:=fun e=>z (.inl (by rw[e];rfl))
 refine⟨?_,u⟩;obtain⟨a,r,rfl⟩:=List.exists_cons_of_ne_nil u;have ha:=hd a (mS_ ..);unfold kF;rw[show dL true (114::a::r)=true from(by show(bif vW true 114 then dL false (a::r) else false)=true;rw[show vW true 114=true from Z,vn hd];rfl),mQ,show decide (114::a::r= [])=false from by simp]
 have:isKey (114::a::r)=false:=by
  unfold isKey;rw[Bool.eq_false_iff];intro hk;obtain⟨x,hx,he⟩:=List.any_eq_true.1 hk;rw[mQ] at he;have he:=of_decide_eq_true he;subst he;simp only[pZ,mQ_,List.cons.injEq,List.not_mem_nil,or_false] at hx;omega
 rw[this];rfl
theorem DX:kF []=false:=by grind [kF,mQ]
theorem OL:kF [48]=false:=by
 unfold kF;rw[show dL true [48]=false from Z];rfl
def j0 (s:List Nat):Int:=match iT s with | some n=>.ofNat n | none=>-1
def jt (op:Int) (name:List Nat):List Nat:=bif D op 2 then(match iT name with | some _=>114::name | none=>[48]) else name
def gb:Nat->XE->XE
 | 0,x=>x
 | k+1,.mk op num name kids=>.mk op num (jt op name) (kids.map<|gb k)
def si (op:Int):Int:=bif (bif D op 1 then true else D op 2) then 0 else bif (bif D op 3 then true else D op 4) then 1 else bif (bif bd (bR op 5) then bd (bR 16 op) else false) then 2 else-1
def dQ (op num:Int) (name:List Nat) (n:Nat):Bool:=
 bif bd (D (si op) (.ofNat n)) then false else bif (bif D op 2 then bd (kF name) else kF name) then false else
 bif (bif bd (D op 2) then bd (gY name []) else false) then false else bif bR num 0 then false else bif (bif bd (D op 1) then bd (D num 0) else false) then false else true
def ed:Nat->XE->Bool
 | 0,_=>false
 | k+1,.mk op num name kids=>bif dQ op num name kids.length then kids.all (ed k) else false
def pg (k:Nat) (x:XE):Int:=bif g9 k x then 3 else bif ed k x then 0 else 2
def gf:Nat->XE->List (List Nat)
 | 0,_=>[]
 | k+1,.mk op _ name kids=>(bif (bif D op 2 then bd (gY name []) else false) then [name] else [])++(kids.map<|gf k).flatten
theorem qV:∀(k:Nat) (x:XE),db k (gb k x)=db k x
 | 0,_=>rfl
 | k+1,.mk op num name kids=>by
  show((kids.map<|gb k).map<|db k).sum+1=(kids.map<|db k).sum+1;rw[List.map_map];exact congrArg (fun l=>l.sum+1)<|List.map_congr_left fun x _=>qV k x
theorem vu:∀(k:Nat) (x:XE),fZ k (gb k x)=fZ k x
 | 0,_=>rfl
 | k+1,.mk op num name kids=>by
  show np ((kids.map<|gb k).map<|fZ k)+1=np (kids.map<|fZ k)+1;rw[List.map_map];exact congrArg (fun l=>np l+1)<|List.map_congr_left fun x _=>vu k x
theorem C6 (k:Nat) (x:XE):g9 k (gb k x)=g9 k x:=by unfold g9;rw[qV,vu]
theorem iQ {a b:Int} (h:a≠b):D a b=false:=by rw[dE];simp_all
theorem xj {s:List Nat} (h:gY s []=true):s= []:=by rw[mQ] at h;simp_all
theorem Ft (bc:Int) (k:Nat) (op num:Int) (name:List Nat) (kids:List XE):eo bc (k+1) (.mk op num name kids)=(bif (bif dQ op num (jt op name) kids.length then(bif (bif D op 2 then bd (gY name []) else false) then [name] else []).all (fun s=>bR (j0 s) bc) else false) then kids.all (eo bc k) else false):=by
 have hlen:D 0 (.ofNat kids.length)=D (.ofNat kids.length) 0:=by rw[dE,dE];grind
 have z:D (.ofNat kids.length) 0=true->kids.all (eo bc k)=true:=fun h=>by
  grind [eqv]
 by_cases h1:op=1
 ·subst h1;show(bif bd (bR num 0) then(bif gY name [] then D (.ofNat kids.length) 0 else false) else false)=(bif (bif (bif bd (D 0 (.ofNat kids.length)) then false else bif kF name then false else bif bd (gY name []) then false else bif bR num 0 then false else true) then true else false) then kids.all (eo bc k) else false);rw[hlen];cases hl:D (.ofNat kids.length) 0 with
  | false=>cases bR num 0<;>cases gY name []<;>rfl
  | true=>
   rw[z hl];cases C:gY name [] with
   | false=>cases bR num 0<;>cases kF name<;>rfl
   | true=>rw[xj C,DX];cases bR num 0<;>rfl
 by_cases Q:op=2
 ·subst Q;show(match iT name with | some n=>(bif bR (.ofNat n) bc then(bif D num 0 then D (.ofNat kids.length) 0 else false) else false) | none=>false)=(bif (bif (bif bd (D 0 (.ofNat kids.length)) then false else bif bd (kF (match iT name with | some _=>114::name | none=>[48])) then false else bif bR num 0 then false else bif bd (D num 0) then false else true) then(bif bd (gY name []) then [name] else []).all (fun s=>bR (j0 s) bc) else false) then kids.all (eo bc k) else false);rw[hlen];cases R:iT name with
  | none=>
   dsimp only;rw[OL];cases D (.ofNat kids.length) 0<;>rfl
  | some n=>
   dsimp only;obtain⟨hw,aa⟩:=Ii R;have E:j0 name= .ofNat n:=by unfold j0;rw[R]
   rw[hw,show gY name []=false from by rw[mQ];simp_all];show _=(bif (bif _ then([name].all fun s=>bR (j0 s) bc) else false) then _ else false);simp only[List.all_cons,List.all_nil,Bool.and_true,E];cases hl:D (.ofNat kids.length) 0 with
   | false=>cases bR (.ofNat n) bc<;>cases D num 0<;>rfl
   | true=>
    rw[z hl];cases K:D num 0 with
    | false=>cases bR (.ofNat n) bc<;>cases bR num 0<;>rfl
    | true=>rw[eqv K];cases bR (.ofNat n) bc<;>rfl
 have e1:=iQ h1;have e2:=iQ Q;have A:jt op name=name:=by unfold jt;rw[e2];rfl
 have W:(bif (bif D op 2 then bd (gY name []) else false) then [name] else []).all (fun s=>bR (j0 s) bc)=true:=by rw[e2];rfl
 rw[A,W];show(bif D op 1 then _ else bif D op 2 then _ else _)=_;unfold dQ si ga;rw[e1,e2];simp only[cond_false];have u:gY name []=true->kF name=false:=fun h=>by rw[xj h];exact DX
 have K:D num 0=true->bR num 0=false:=fun h=>by rw[eqv h];rfl
 have F:∀n:Nat,D (-1) (.ofNat n)=false:=fun n=>iQ (by simp_all)
 have L:D 1 (.ofNat kids.length)=D (.ofNat kids.length) 1:=by rw[dE,dE];grind
 have M:D 2 (.ofNat kids.length)=D (.ofNat kids.length) 2:=by rw[dE,dE];grind
 cases ab:(bif D op 3 then true else D op 4) with
 | true=>
  simp only[cond_true,cond_false,L];cases C:gY name [] with
  | false=>cases D (.ofNat kids.length) 1<;>cases D num 0<;>cases kF name<;>cases bR num 0<;>rfl
  | true=>
   rw[u C];cases G:D num 0 with
   | false=>cases D (.ofNat kids.length) 1<;>cases bR num 0<;>rfl
   | true=>rw[K G];cases D (.ofNat kids.length) 1<;>cases kids.all (eo bc k)<;>rfl
 | false=>
  cases h5:bR op 5 with
  | true=>simp only[cond_true,cond_false,F,show bd true=false from Z,show bd false=true from Z]
  | false=>
  cases ac:bR 16 op with
  | true=>simp only[cond_true,cond_false,bd,F]
  | false=>
   simp only[cond_true,cond_false,M,show bd false=true from Z];cases C:gY name [] with
   | false=>cases D (.ofNat kids.length) 2<;>cases D num 0<;>cases kF name<;>cases bR num 0<;>rfl
   | true=>
    rw[u C];cases G:D num 0 with
    | false=>cases D (.ofNat kids.length) 2<;>cases bR num 0<;>rfl
    | true=>grind
theorem qR (bc:Int):∀(k:Nat) (x:XE),(bif ed k (gb k x) then(gf k x).all (fun s=>bR (j0 s) bc) else false)=eo bc k x
 | 0,_=>rfl
 | k+1,.mk op num name kids=>by
  have u:(bif (kids.map<|gb k).all (ed k) then((kids.map<|gf k).flatten).all (fun s=>bR (j0 s) bc) else false)=kids.all (eo bc k):=by
   rw[Bool.eq_iff_iff];rw[Rm];constructor
   ·intro h
    have h1:(kids.map<|gb k).all (ed k)=true:=by
     cases A:(kids.map<|gb k).all (ed k) with
     | true=>rfl
     | false=>exact absurd (h.2 A) Bool.false_ne_true
    have h2:=aE_.1 (h.1 h1);refine aE_.2 fun x hx=>?_
    rw[<-qR bc k x,show ed k (gb k x)=true from aE_.1 h1 _ (List.mem_map_of_mem hx)];exact aE_.2 fun s z=>h2 s (List.mem_flatten.2 ⟨_,List.mem_map_of_mem hx,z⟩)
   intro h;have h:=aE_.1 h
   have C:∀x∈kids,ed k (gb k x)=true/\(gf k x).all (fun s=>bR (j0 s) bc)=true:=fun x hx=>by
    have:=h x hx;rw[<-qR bc k x] at this;cases A:ed k (gb k x) with
    | true=>rw[A] at this;exact⟨Z,this⟩
    | false=>rw[A] at this;cases this
   refine⟨fun _=>aE_.2 fun s z=>?_,fun h1=>?_⟩
   ·obtain⟨l,hl,z⟩:=List.mem_flatten.1 z;obtain⟨x,hx,rfl⟩:=List.mem_map.1 hl;exact aE_.1 (C x hx).2 s z
   rw[aE_.2 fun y hy=>by obtain⟨x,hx,rfl⟩:=List.mem_map.1 hy;exact(C x hx).1] at h1;cases h1
  have key:eo bc (k+1) (.mk op num name kids)=(bif (bif dQ op num (jt op name) kids.length then(bif (bif D op 2 then bd (gY name []) else false) then [name] else []).all (fun s=>bR (j0 s) bc) else false) then kids.all (eo bc k) else false):=Ft bc k op num name kids;show(bif (bif dQ op num (jt op name) (kids.map<|gb k).length then(kids.map<|gb k).all (ed k) else false) then((bif (bif D op 2 then bd (gY name []) else false) then [name] else [])++(kids.map<|gf k).flatten).all (fun s=>bR (j0 s) bc) else false)=_;rw[lM_,List.all_append,key,<-u];cases dQ op num (jt op name) kids.length<;>cases (kids.map<|gb k).all (ed k)<;>cases (bif (bif D op 2 then bd (gY name []) else false) then [name] else []).all (fun s=>bR (j0 s) bc)<;>rfl
def gJ (kind:Int):Int:=
 bif D kind 1 then 1 else bif D kind 3 then 1 else bif D kind 5 then 1 else bif D kind 6 then 1 else bif D kind 8 then 1 else bif D kind 9 then 1 else bif D kind 11 then 1 else bif D kind 4 then 2 else
 bif D kind 2 then 0 else bif D kind 7 then 0 else bif D kind 10 then 0 else bif D kind 12 then 0 else bif D kind 13 then 0 else-1
def rU (kind:Int):Bool:=bif D kind 2 then true else bif D kind 3 then true else bif D kind 4 then true else bif D kind 5 then true else D kind 6
def lM (kind:Int):Bool:=bif D kind 1 then true else bif rU kind then bd (D kind 3) else false
def BW (a b:Bool):Bool:=bif a then bd b else b
def m8 (bc:Int) (k:Nat) (e:XE):Bool:=bif D (pg k<|gb k e) 0 then(gf k e).all (fun s=>bR (j0 s) bc) else false
def tF (kind:Int):Bool:=bif rU kind then true else D kind 7
def MS (kind:Int):Bool:=bif D kind 10 then true else D kind 11
def pV (x:XI):Bool:=
 bif bd (D (gJ x.kind) (.ofNat x.exprs.length)) then true else bif BW (tF x.kind) (bif bd (bR x.order 1) then bd (bR 6 x.order) else false) then true else bif bd (tF x.kind) then bd (D x.order 0) else false
def nt (bc:Int) (x:XI):Bool:=
 bif (bif lM x.kind then(bif bR x.qd 0 then true else bd (bR x.qd bc)) else false) then true else
 bif (bif bd (lM x.kind) then bd (D x.qd 0) else false) then true else
 bif (bif rU x.kind then(bif bR x.loc 0 then true else bd (bR x.loc 6)) else false) then true else
 bif bd (rU x.kind) then bd (D x.loc 0) else false
def wL (nins:Int) (x:XI):Bool:=
 bif (bif MS x.kind then(bif bR x.to 0 then true else bd (bR x.to nins)) else false) then true else bif bd (MS x.kind) then bd (D x.to 0) else false
def gT (bc nins:Int) (k:Nat) (x:XI):Bool:=bif pV x then false else bif nt bc x then false else bif wL nins x then false else x.exprs.all (m8 bc k)
theorem Ic {bc:Int} {k:Nat} {e:XE} (h:g9 k e=false):m8 bc k e=eo bc k e:=by
 unfold m8 pg;rw[C6,h,<-qR bc k e];cases ed k (gb k e)<;>rfl
theorem Cy {bc nins:Int} {k:Nat} {x:XI} (h:∀e∈x.exprs,g9 k e=false):gT bc nins k x=fT bc nins k x:=by
 have u:x.exprs.all (m8 bc k)=x.exprs.all (eo bc k):=by
  rw[Bool.eq_iff_iff,aE_,aE_]
  grind [Ic]
 unfold gT;rw[u]
 by_cases hk:1<=x.kind/\x.kind<=13
 ·have E:∃sh,jC[x.kind.toNat]?=some sh/\fT bc nins k x=gO bc nins k x sh/\(sh.qd=lM x.kind/\sh.loc=rU x.kind/\sh.order=tF x.kind/\sh.to=MS x.kind/\Int.ofNat sh.exprs=gJ x.kind):=by
   have F:∃n:Nat,x.kind= .ofNat n/\1<=n/\n<=13:=⟨x.kind.toNat,by grind,by omega,by omega⟩;obtain⟨n,F,h1,X⟩:=F
   have e0:fT bc nins k x=match jC[x.kind.toNat]? with | some h=>gO bc nins k x h | none=>false:=by
    unfold fT;rw[vY.2 hk.1,vY.2 hk.2];rfl
   rw[e0,F];have:n=1∨n=2∨n=3∨n=4∨n=5∨n=6∨n=7∨n=8∨n=9∨n=10∨n=11∨n=12∨n=13:=by omega
   rcases this with rfl | rfl | rfl | rfl | rfl | rfl | rfl | rfl | rfl | rfl | rfl | rfl | rfl<;>exact⟨_,rfl,rfl,rfl,rfl,rfl,rfl,rfl⟩
  obtain⟨sh,_,hr,h1,X,h3,h4,h5⟩:=E;rw[hr];unfold gO pV nt wL fU BW;rw[h1,X,h3,h4,show D (.ofNat x.exprs.length) (.ofNat sh.exprs)=D (gJ x.kind) (.ofNat x.exprs.length) from by rw[dE,dE,h5];grind]
  have o7:bR x.order 7=bd (bR 6 x.order):=by
   rw[Bool.eq_iff_iff,Ln,Pl,vY];omega
  have o0:D x.order 0=true->bR x.order 1=true:=by rw[Rn,Ln];omega
  rw[o7];generalize x.exprs.all (eo bc k)=A;generalize D (gJ x.kind) (.ofNat x.exprs.length)=B_;generalize lM x.kind=S0;generalize rU x.kind=C;generalize tF x.kind=D_;generalize MS x.kind=T0;generalize bR x.qd 0=G;generalize bR x.qd bc=K;generalize D x.qd 0=L;generalize bR x.loc 0=M;generalize bR x.loc 6=l1;generalize D x.loc 0=l2;generalize bR x.to 0=Q;generalize bR x.to nins=R;generalize D x.to 0=W;generalize bR 6 x.order=z;revert o0;generalize bR x.order 1=q1;generalize D x.order 0=q0;intro o0;have eS:(bif (bif S0 then(bif G then true else bd K) else false) then true else bif bd S0 then bd L else false)=bd (bif S0 then(bif bd G then K else false) else L):=by cases S0<;>cases G<;>cases K<;>cases L<;>rfl
  have eC:(bif (bif C then(bif M then true else bd l1) else false) then true else bif bd C then bd l2 else false)=bd (bif C then(bif bd M then l1 else false) else l2):=by cases C<;>cases M<;>cases l1<;>cases l2<;>rfl
  have eT:(bif (bif T0 then(bif Q then true else bd R) else false) then true else bif bd T0 then bd W else false)=bd (bif T0 then(bif bd Q then R else false) else W):=by cases T0<;>cases Q<;>cases R<;>cases W<;>rfl
  have eD:(bif (bif D_ then bd (bif bd q1 then bd z else false) else(bif bd q1 then bd z else false)) then true else bif bd D_ then bd q0 else false)=bd (bif D_ then(bif bd q1 then bd z else false) else q0):=by
   cases D_<;>cases q0<;>cases q1<;>cases z<;>first | rfl | simp_all
  grind
 have hx:fT bc nins k x=false:=by
  grind [fT,vY]
 have hb:pV x=true:=by
  have he:gJ x.kind= -1:=by
   unfold gJ;rw[iQ (b:=1) B,iQ (b:=3) B,iQ (b:=5) B,iQ (b:=6) B,iQ (b:=8) B,iQ (b:=9) B,iQ (b:=11) B,iQ (b:=4) B,iQ (b:=2) B,iQ (b:=7) B,iQ (b:=10) B,iQ (b:=12) B,iQ (b:=13) B];rfl
  unfold pV;rw[he,iQ (a:=-1) (b:=.ofNat x.exprs.length) (by simp_all)];rfl
 rw[hx,hb];rfl
def gR (k:Nat) (c:XC):Int:=
 bif (bif bR 16 c.bc then true else bR 4000 (.ofNat c.ins.length)) then 3 else
 bif c.ins.any (fun x=>x.exprs.any (g9 k)) then 3 else
 bif (bif bR c.bc 0 then true else D (.ofNat c.ins.length) 0) then 2 else
 bif bd (c.ins.all<|gT c.bc (.ofNat c.ins.length) k) then 2 else
 match c.ins[c.ins.length-1]? with
 | some x=>bif gL x then 0 else 2
 | none=>2
def lC (k:Nat) (c:XC):Prop:=∀x∈c.ins,∀e∈x.exprs,ja k e
theorem g8 {k:Nat} {c:XC} (hf:lC k c):gR k c=cS k c:=by
 have h1:c.ins.all (uQ k)=bd (c.ins.any fun x=>x.exprs.any (g9 k)):=by
  rw[Bool.eq_iff_iff,Pl,aE_,List.any_eq_false];refine⟨fun h x hx=>?_,fun h x hx=>?_⟩
  ·rw[Bool.not_eq_true,List.any_eq_false];intro e he;have:=aE_.1 (h x hx) e he;rw[yA<|hf x hx e he,Pl] at this;rw[this];decide
  have h2:=h x hx;rw[Bool.not_eq_true,List.any_eq_false] at h2;refine aE_.2 fun e he=>?_
  rw[yA<|hf x hx e he,Pl]
  simp_all
 unfold gR cS;rw[h1];cases ha:(c.ins.any fun x=>x.exprs.any (g9 k)) with
 | true=>cases bR 16 c.bc<;>cases bR 4000 (.ofNat c.ins.length)<;>rfl
 | false=>
  have h2:c.ins.all (gT c.bc (.ofNat c.ins.length) k)=c.ins.all (fT c.bc (.ofNat c.ins.length) k):=by
   have:∀x∈c.ins,gT c.bc (.ofNat c.ins.length) k x=fT c.bc (.ofNat c.ins.length) k x:=fun x hx=>Cy fun e he=>by
    grind
   grind
  rw[h2];cases bR 16 c.bc<;>cases bR 4000 (.ofNat c.ins.length)<;>cases bR c.bc 0<;>cases D (.ofNat c.ins.length) 0<;>rfl
section
variable {P:Program} {G:Cx} {n:Nat} {t:PT V} {U:I} {K:H} {L:Own} {Q:Ex->PT V->I->Prop} {ops:Array Oper} {o:Oper} {i:Nat} {rc:List Nat} {l:List (Nat×List Nat)}
theorem uv {t':PT V} (hi:ops[i]?=some o) (hw:bS ops t o=some false) (hp:dG t n o.dst unit=some t') (h:dk P G ops t' U rc=true/\cG P G ops n l t' U Q):cG P G ops n ((i,rc)::l) t U Q:=by
 obtain⟨hs,K,e,u,z,h1,A⟩:=h;refine⟨K,e,u,z,fun k hk=>?_,A⟩
 show(match ops[i]? with
  | some o=>jx P G (eB P G k) false ops n o t U (fun t' U'=>bif dk P G ops t' U' rc then kx P G (eB P G k) ops n [] l t' U' else .err 86)
  | none=>.err 87)=_
 grind [jx]
end
section
variable {P:Program} {G:Cx} {ev:Operand->Option V} {U:I} {K:H} {L:Own}
theorem fI {t:TypeId} {x i:Operand} {s:List Nat} {n c:Nat} {k:IntKind} (z:P.underlying t=some .string) (hx:ev x=some (.str s)) (hi:ev i=some (.int k (.ofNat n))) (hc:s[n]?=some c):dX P G ev U (.index t x i)= .val (.int .u8 (.ofNat c)) U:=by
 refine bf Z ?_;simp only[di,z,hx,hi,eL,hc]
theorem ud {t e n m j off:Nat} {b:Pos} {x i:Operand} {k:IntKind} (z:P.underlying t=some (.array n e)) (hj:(P.info? e).map (·.size)=some m) (hx:ev x=some (.ptr b off)) (hi:ev i=some (.int k (.ofNat j))) (A:j<n):dX P G ev U (.indexAddr t x i)= .val (.ptr b (off+j*m)) U:=by
 refine bf Z ?_;obtain⟨q,hq,rfl⟩:=oM_.1 hj;simp only[di,z,hx,hi,hq,show Nat.ble (Nat.succ j) n=true by rw[nE_];exact A,cond_true]
theorem fh {x:Operand} {b:Pos} {off:Nat} (hx:ev x=some (.ptr b off)):dX P G ev U (.nilCheck x)= .val (.ptr b off) U:=bf Z (by simp only[di,hx])
theorem dN {x:Operand} {p:V} {vs:List V} (hp:il K p vs) (hx:ev x=some p):dX P G ev U (.nilCheck x)= .val p U:=by
 obtain⟨b,off,_,_,_,rfl,_⟩:=hp;exact fh hx
theorem Hh {c:Call} {x y:Operand} {a b:Int} {k:IntKind} (hc:c.callee= .builtin .max) (z:c.args.toList= [x,y]) (hx:ev x=some (.int k a)) (hy:ev y=some (.int k b)):dX P G ev U (.call c)= .val (.int k (bif bR a b then b else a)) U:=by
 refine bf (by simp[kindOf,hc]) ?_;have e:s7 k k=true:=by cases k<;>rfl
 simp only[di,hc,z,hx,hy,Oh,e,cond_true]
theorem fR {α:Type} {f:α->V} {l:List α} {i off:Nat} {x:α} (h:l[i]?=some x) (z:off=i):nth (l.map f) off=some (f x):=by
 subst z;rw[eL,gM_,h];rfl
theorem ef {α:Type} {f:α->V} {l:List α} {i off:Nat} {v:α} (h:i<l.length) (ho:off=i):dI [f v] (l.map f) off=(l.set i v).map f:=by
 grind [gg,List.map_set]
theorem gM {α:Type} {f:α->V} (v:α) (n:Nat):fq [f v] n=(List.replicate n v).map f:=by rw[ey,List.map_replicate]
end
def nk {α:Type} (m E:Nat) (R:α->List V->Prop) (l:List α) (u:V) (M:Own):Prop:=
 (l= []/\u= .au/\M= [])∨∃(b:Nat) (c:qf) (cells:List V) (e:Nat),u= .slice b 0 l.length c/\M= [(b,.row cells e false)]/\l.length*m<=cells.length/\(∀(i:Nat) (x:α),l[i]?=some x->R x ((cells.drop (i*m)).take m))/\((∃n,c= .known n/\l.length<=n/\n*m<=cells.length)∨(c= .upto m/\e=E))/\l.length<=1048576
section
variable {α:Type} {m E:Nat} {R:α->List V->Prop} {l:List α} {u:V} {M:Own} {K:H}
theorem cN.Pr (h:cN m E R l u M):nk m E R l u M:=by
 rcases h with h | ⟨b,c,cells,e,h1,z,h3,h4,h5,A⟩
 ·exact .inl h
 refine .inr ⟨b,c,cells,e,h1,z,by omega,h4,?_,A⟩
 grind
theorem nk.iB (h:nk m E R l u M) (hk:∀e∈M,K e.1 e.2):bJ K m R l u:=by
 rcases h with ⟨h1,z,_⟩ | ⟨b,c,cells,e,rfl,rfl,h3,h4,h5,h6⟩
 ·exact .inl ⟨h1,z⟩
 refine .inr ⟨b,0,c,cells,e,false,Z,?_,hk _<|mS_ ..,by omega,by omega,fun i x hx=>by simp_all⟩;rcases h5 with ⟨n,h5,A,_⟩ | h5
 ·exact .inr ⟨_,h5,A⟩
 exact .inl h5.1
theorem sZ {P:Program} {G:Cx} {ev:Operand->Option V} {U:I} {c:Call} {t e:TypeId} {x:Operand} (h:nk m E R l u M) (hc:c.callee= .builtin .len) (z:c.argTypes[0]?=some t) (A:c.args.toList= [x]) (hu:P.underlying t=some (.slice e)) (hx:ev x=some u):
  dX P G ev U (.call c)= .val (.int .i64 (.ofNat l.length)) U:=
 aW (K:=fun b o=>(b,o)∈M) (h.iB fun e he=>he) hc z A hu hx
theorem nk.take (h:nk m E R l u M) {P:Program} {ev:Operand->Option V} {t:TypeId} {x hi:Operand} {kk:IntKind} {k:Nat} (hk:k<=l.length) (hu:P.underlying t=some (.slice E)) (hj:(P.info? E).map (·.size)=some m) (hx:ev x=some u) (A:ev hi=some (.int kk (.ofNat k))):
  ∃u',fD P ev t x none (some hi) none=some u'/\nk m E R (l.take k) u' M:=by
 obtain⟨j,z,rfl⟩:=oM_.1 hj;rcases h with ⟨rfl,rfl,rfl⟩ | ⟨b,c,cells,e,rfl,rfl,F,h4,h5,h6⟩
 ·obtain rfl:k=0:=by simpa using hk
  refine⟨.au,?_,.inl ⟨Z,Z,Z⟩⟩;have:dc ev 0 0 none (some hi)=some (0,0):=pf A (nR_ _);simp only[fD,hu,hx,z,this]
 have hl:(l.take k).length=k:=by simp_all
 have C:∀(i:Nat) (x:α),(l.take k)[i]?=some x->R x ((cells.drop (i*j.size)).take j.size):=fun i x hi=>by
  grind
 have hle:k*j.size<=cells.length:=Nat.le_trans (nM_ _ hk) F;rcases h5 with ⟨n,rfl,h7,Q⟩ | ⟨rfl,rfl⟩
 ·refine⟨.slice b 0 k (.known n),?_,.inr ⟨b,.known n,cells,e,by rw[hl],Z,by rw[hl];exact hle,C,.inl ⟨n,Z,by rw[hl];omega,Q⟩,by rw[hl];omega⟩⟩;have:dc ev l.length n none (some hi)=some (0,k):=pf A B;simp only[fD,hu,hx,cutAt,this,cut,z]
  simp_all
 refine⟨.slice b 0 k (.upto j.size),?_,.inr ⟨b,.upto j.size,cells,e,by rw[hl],Z,by rw[hl];exact hle,C,.inr ⟨Z,Z⟩,by rw[hl];omega⟩⟩;have:dc ev l.length l.length none (some hi)=some (0,k):=pf A hk;simp only[fD,hu,hx,this,z,show Nat.beq j.size j.size=true from Nat.beq_refl _,cond_true,Nat.zero_mul,Nat.sub_zero,Nat.add_zero]
end
section
variable {α:Type} {m E:Nat} {R:α->List V->Prop}
theorem zn {l l2:List α} {cells news Zv:List V} (hl:l.length*m<=cells.length) (h1:∀(i:Nat) (x:α),l[i]?=some x->R x ((cells.drop (i*m)).take m)) (hn:news.length=l2.length*m) (A:∀(i:Nat) (x:α),l2[i]?=some x->R x ((news.drop (i*m)).take m)):
  ∀(i:Nat) (x:α),(l++l2)[i]?=some x->R x (((cells.take (l.length*m)++(news++Zv)).drop (i*m)).take m):=by
 intro i x hx;have C:(cells.take (l.length*m)).length=l.length*m:=by simp_all
 by_cases hi:i<l.length
 ·rw[gL_ hi] at hx;have hle:(i+1)*m<=l.length*m:=nM_ _ hi
  grind [List.drop_take]
 rw[gR_ B] at hx;have hlt:=(gA.1 hx).1;have hle:l.length*m<=i*m:=nM_ _ B;have z:(i-l.length+1)*m<=l2.length*m:=nM_ _ hlt;rw[Nat.succ_mul] at z;rw[List.drop_append,List.drop_eq_nil_of_le B,List.nil_append,C,<-Nat.sub_mul,List.drop_append_of_le_length B,List.take_append_of_le_length (by grind)];exact A _ x hx
section
variable {P:Program} {K:H} {L:Own}
theorem qK {l l2:List α} {u v2:V} {M:Own} {bv ev e:Nat} {cv:List V} {ts:Array TypeId} {t:TypeId} {U:I} (ho:nk m e R l u M) (aq:J U K ((bv,.row cv ev false)::(M++L)))
  (hx:bJ (K.add bv (.row cv ev false)) m R l2 v2) (A:∀x vs,R x vs->cF vs=true) (hn:l2.length<=1000) (aa:1<=l2.length) (hl:l.length<=1000000)
  (ht:ts[0]?=some t) (hu:P.underlying t=some (.slice e)) (X:qh P e m=true) (h2:dp P ts[1]?=true):
  ∃U' u' M',gh P U ts u v2= .val u' U'/\nk m e R (l++l2) u' M'/\J U' K (M'++L):=by
 have hk:=aq.iC;have C:J U K (M++L):=hk.weaken (H.sO _ _ _);rcases ho with ⟨rfl,rfl,rfl⟩ | ⟨b,c,cells,e',rfl,rfl,h3,h4,h5,h6⟩
 ·obtain⟨news,k1,k2,k3⟩:=rR (P:=P) hk hx A B aa ht hu X h2;exact⟨_,_,[(U.next,.row news e false)],k1,.inr ⟨_,_,news,e,Z,Z,by simp_all,k3,.inr ⟨Z,Z⟩,by grind⟩,((hk.alloc (.row news e false)).weaken<|H.sO _ _ _)⟩
 obtain⟨news,s1,s2,s3,s4⟩:=oL hk hx A;unfold qh at X;split at X
 ·rename_i j hj;simp only[bA_] at X;obtain⟨a1,a2,a3,a4⟩:=X;have hm:j.size=m:=nB a1;subst hm;have hz:((P.info? e).any fun j=>(j.zero.bind qF).any fun z=>(cW z).any fun cs=>Nat.beq (cY cs) j.size)=true:=by rw[hj];exact a4
  have hb:=C.get 0 Z;have hlen:(l++l2).length=l.length+l2.length:=lA_;have hmul:(l.length+l2.length)*j.size=l.length*j.size+l2.length*j.size:=Nat.add_mul ..;unfold gh;rw[ht];dsimp only;rw[hu];dsimp only;rw[hj];dsimp only;rw[h2,a2,a3];simp only[Bool.and_self,cond_true];rw[s1];dsimp only;rw[hj] at hz;rw[s3,show Nat.ble l2.length 1048576=true by rw[nE_];omega,hz];simp only[Bool.and_self,cond_true];have hle:Nat.ble (0+l.length*j.size) (cY cells)=true:=by rw[nE_,bP];omega
  have F:takeN (dP cells 0) (l.length*j.size)=cells.take (l.length*j.size):=by rw[dn,dM,List.drop_zero]
  have ab:Nat.ble l.length 1048576=true:=by simp_all
  have hA:(cells.take (l.length*j.size)).length=l.length*j.size:=by simp_all
  have am:l.length*j.size+news.length<=cells.length->dI news cells (0+l.length*j.size)=cells.take (l.length*j.size)++(news++cells.drop (l.length*j.size+news.length)):=fun hh=>by
   rw[nA_,oN _ _ _ B,lQ_]
  have ac:l.length*j.size+news.length<=cells.length->∀c',((∃n,c'=qf.known n/\(l++l2).length<=n/\n*j.size<=cells.length)∨(c'=qf.upto j.size/\e'=e))->nk j.size e R (l++l2) (.slice b 0 (l.length+l2.length) c') [(b,.row (dI news cells (0+l.length*j.size)) e' false)]:=fun hh c' W=>by
   have ao:(dI news cells (0+l.length*j.size)).length=cells.length:=by
    grind
   refine .inr ⟨b,c',_,e',by rw[hlen],Z,by simp_all,?_,by rw[ao];exact W,by rw[hlen];omega⟩;rw[am hh];exact zn h3 h4 s2 s4
  have ae:nk j.size e R (l++l2) (.slice U.next 0 (l.length+l2.length) (.upto j.size)) [(U.next,.row (cells.take (l.length*j.size)++news) e false)]:=by
   refine .inr ⟨_,_,_,e,by rw[hlen],Z,by simp_all,?_,.inr ⟨Z,Z⟩,by rw[hlen];omega⟩;have:=zn (Zv:=[]) h3 h4 s2 s4
   simp_all
  rcases h5 with ⟨n,rfl,h7,h8⟩ | ⟨rfl,rfl⟩
  ·dsimp only;cases hc:Nat.ble (l.length+l2.length) n with
   | true=>
    have W:l.length+l2.length<=n:=by simp_all
    have Q:l.length*j.size+news.length<=cells.length:=by
     have:(l.length+l2.length)*j.size<=n*j.size:=nM_ _ W;rw[s2];omega
    simp only[cond_true];rw[hb];dsimp only;rw[show Nat.ble (0+l.length*j.size+cY news) (cY cells)=true by rw[nE_,bP,bP];omega];simp only[cond_true];exact⟨_,_,[(b,_)],Z,ac Q _ (.inl ⟨n,Z,by rw[hlen];exact W,h8⟩),C.pP _⟩
   | false=>
    simp only[cond_false];rw[hb];dsimp only;rw[hle,ab,F,dV];simp only[Bool.and_self,cond_true];exact⟨_,_,[(U.next,_)],Z,ae,((C.alloc _).perm<|List.Perm.swap ..).pop⟩
  dsimp only
  have:Nat.beq l2.length 0=false:=by
   grind [nB]
  rw[this,Nat.beq_refl,ab];simp only[Bool.and_self,cond_true,cond_false];rw[hb];dsimp only;cases hf:(Nat.ble 1 l.length && Nat.ble (0+l.length*j.size+cY news) (cY cells)) with
  | true=>
   have Q:l.length*j.size+news.length<=cells.length:=by
    rw[bA_,nE_,nE_,bP,bP] at hf;omega
   simp only[cond_true];exact⟨_,_,[(b,_)],Z,ac Q _ (.inr ⟨Z,Z⟩),C.pP _⟩
  | false=>
   simp only[cond_false];rw[hle,Nat.beq_refl,F,dV];simp only[Bool.and_self,cond_true];exact⟨_,_,[(U.next,_)],Z,ae,C.yl _⟩
 cases X
end
end
end Go.Ev
namespace Go.Ev
variable [Env]
open Go.Proofs
set_option maxRecDepth 4000
set_option maxHeartbeats 8000000
theorem ua {G:Cx} (A:Plain G) {K:H} (n le mo:Int) (mu:Bool) {U:I} {L:Own} (aq:J U K L):bm Tryz.prog G 217 [.int .i64 n,.int .i64 le,.int .i64 mo,.bool mu] U fun v U'=>v= .bool (fU n le mo mu)/\J U' K L:=by
 refine QX A Tryz.func217 Z<|PV 9 Z<|O Z (cT Z) Z<|QC 2 Z<|aD Z (fun u=>?_) (fun u=>?_)
 ·have h10b:=bN u;refine QB 9 Z ?_;exact aB Z Z ⟨cB (by unfold fU bd;simp only[h10b,ct,cf]),aq⟩
 have h10b:=bn u;refine PX 7 Z<|ky Z (an Z) (fun z=>?_) (fun z=>?_)
 ·refine QE 8 Z ?_;exact aB Z Z ⟨cB (by unfold fU bd;simp only[h10b,z,ct,cf]),aq⟩
 refine QE 8 Z ?_;exact aB Z Z ⟨cB (by unfold fU bd;simp only[h10b,z,ct,cf]),aq⟩
theorem Br {c:Nat} (h:bR (.ofNat c) 48=true):¬(48<=c/\c<=57):=by have:c<48:=bk (b:=48) h;omega
theorem Bq {c:Nat} (h:bR 57 (.ofNat c)=true):¬(48<=c/\c<=57):=by have:57<c:=bk (a:=57) h;omega
theorem jB {c:Nat} (h:bR (.ofNat c) 48=false) (h':bR 57 (.ofNat c)=false):48<=c/\c<=57:=by have:48<=c:=br (b:=48) h;have:c<=57:=br (a:=57) h';omega
theorem Ks {c m:Nat} (h:48<=c/\c<=57) (hm:m<=100000):wr .i64 (Int.add (wr .i64<|Int.mul 10 (.ofNat m))<|wr .i64<|wr .u8<|Int.sub (.ofNat c) 48)= .ofNat (10*m+(c-48)):=by
 have e1:Int.sub (.ofNat c) 48= .ofNat (c-48):=by show(c:Int)-48=((c-48:Nat):Int);omega
 have z:Int.mul 10 (.ofNat m)= .ofNat (10*m):=rfl
 have A:wr .u8 (.ofNat (c-48))= .ofNat (c-48):=by
  show(bif Nat.ble (c-48) 255 then _ else _)=_;rw[show Nat.ble (c-48) 255=true by rw[nE_];omega];rfl
 have u:∀q:Nat,q<=9223372036854775807->wr .i64 (.ofNat q)= .ofNat q:=fun q hq=>by
  show(bif Nat.ble q 9223372036854775807 then _ else _)=_;rw[show Nat.ble q 9223372036854775807=true by rw[nE_];exact hq];rfl
 rw[e1,z,A,u _ B,u _ B];show wr .i64 (.ofNat (10*m+(c-48)))=_;exact u _ B
theorem rK {s:List Nat} (h:s.length=0∨4<s.length∨(1<s.length/\s[0]?=some 48)):iT s=none:=by unfold iT;rw[if_pos h]
theorem iq {s:List Nat} (h:¬(s.length=0∨4<s.length∨(1<s.length/\s[0]?=some 48))):iT s=nR s 0:=by unfold iT;rw[if_neg h]
def PA (o:Option Nat):Int:=.ofNat (o.getD 0)
theorem yb:∀i,i<=4->10 ^ i<=10000:=by decide
theorem FP {G:Cx} (hG:Plain G) {K:H} (s:List Nat) {U:I} {L:Own} (aq:J U K L):bm Tryz.prog G 253 [.str s] U fun v U'=>v= .tuple [.int .i64<|PA<|iT s,.bool (iT s).isSome]/\J U' K L:=by
 refine QX hG Tryz.func253 Z<|PV 10 Z<|O Z (iv Z Z Z Y Z) Z<|vQ 1 Z<|ky Z (an Z) (fun h9=>?_) (fun h9=>?_)
 ·refine P3 25 Z ?_;exact bU Z Z Z ⟨by rw[rK (.inl (by have:=s5 h9;rw[<-bP];exact iJ_ this))];rfl,aq⟩
 refine vQ 1 Z<|O Z (iv Z Z Z Y Z) Z<|Q3 2 Z<|ky Z (an Z) (fun Q=>?_) (fun Q=>?_)
 ·refine P3 20 Z ?_;exact bU Z Z Z ⟨by rw[rK (.inr (.inl (by rw[<-bP];exact bk (a:=4) Q)))];rfl,aq⟩
 refine vQ 1 Z<|O Z (iv Z Z Z Y Z) Z<|vQ 1 Z<|ky Z (an Z) (fun R=>?_) (fun R=>?_)
 ·refine vQ 1 Z ?_;obtain⟨ac,F⟩:=cq (show 0<s.length from by have:=bk (a:=1) R;rw[bP] at this;omega);refine O Z (fI Y Z Z F) Z<|QC 5 Z<|aD Z (fun W=>?_) (fun W=>?_)
  ·refine QB 8 Z ?_;exact bU Z Z Z ⟨by rw[rK (.inr (.inr ⟨by rw[<-bP];exact bk (a:=1) R,by rw[F];exact congrArg some<|iJ_<|eqv W⟩))];rfl,aq⟩
  refine PX 4 Z ?_;have hl4:cY s<=4:=br (a:=4) Q
  have E:¬(s.length=0∨4<s.length∨(1<s.length/\s[0]?=some 48)):=by
   have hl4:=hl4;rw[bP] at hl4;have h9z:s.length≠0:=fun e=>by rw[bP,e] at h9;cases h9
   rintro (e | e | ⟨_,e⟩)
   ·exact h9z e
   ·omega
   rw[F] at e;cases e;cases W
  refine Pw 7 Z<|O Z (iv Z Z Z Y Z) Z<|PZ 4 Z ?_;obtain⟨LL1,aq,hLL1⟩:=aq.named;refine bp (rg 2 4++rg 26 22) (fun j t U=>∃(i m:Nat),j+i=cY s/\nR s 0=nR (s.drop i) m/\m<10 ^ i/\i<=4/\t.get 4=some (.int .i64 (.ofNat m))/\t.get 26=some (.int .i64 (.ofNat i))/\J U K LL1) (cY s) ⟨0,0,Z,Z,Nat.one_pos,Nat.zero_le _,Z,Z,aq⟩ ?_;clear aq;intro j5 t U ar hI;obtain⟨i,m,hj,he,hm,X,aa,M,aq⟩:=hI;subst hLL1;obtain⟨oo,rfl⟩:=ar.q2 aa M Z;refine Qz 6 Z<|aD Z (fun z=>?_) (fun z=>?_)
  ·refine OR 11 Z<|QA 4 Z ?_;obtain⟨ab,u⟩:=cq (show i<s.length from by have:=bk z;rwa[bP] at this);refine O Z (fI Y Z Z u) Z<|vQ 1 Z<|ky Z (an Z) (fun A=>?_) (fun A=>?_)
   ·refine QE 15 Z<|av<|aE<|av<|bq<|aE<|av (?_);exact bU Z Z Z ⟨by rw[iq E,he,mg u<|Br A];rfl,aq⟩
   refine Q3 2 Z<|O Z (fI Y Z Z u) Z<|QC 4 Z<|aD Z (fun C=>?_) (fun C=>?_)
   ·refine Q1 7 Z<|av<|aE<|av<|bq<|aE<|av (?_);exact bU Z Z Z ⟨by rw[iq E,he,mg u<|Bq C];rfl,aq⟩
   refine aG<|ad<|ai Z<|Q3 4 Z<|O Z (fI Y Z Z u) Z<|vQ 1 Z ?_;refine O Z (ew (j:=.u8) (k:=.i64) Y Y Y Z) Z ?_;refine Q2 3 Z (aI (Q0 4 Z (aM ⟨j5-1,by have:=bk z;omega,oF,i+1,10*m+(ab-48),by have:=bk z;omega,he.trans<|qo u<|jB A C,by have:=jB A C;rw[Nat.pow_succ];omega,by have:=bk z;have:=hl4;omega,cI<|Ks (jB A C) (by have:=yb i X;omega),cI<|bg B,aq⟩)))
  refine PY 3 Z<|aU<|Q1 8 Z ?_;exact bU Z Z Z ⟨by rw[iq E,he,qn (by have:=br z;rwa[bP] at this)];rfl,aq⟩
 refine Px 12 Z ?_;have hl4:cY s<=4:=br (a:=4) Q
 have E:¬(s.length=0∨4<s.length∨(1<s.length/\s[0]?=some 48)):=by
  have hl4:=hl4;rw[bP] at hl4;have h9z:s.length≠0:=fun e=>by rw[bP,e] at h9;cases h9
  have h18z:¬(1<s.length):=by have:=br (a:=1) R;rw[bP] at this;omega
  omega
 refine Pw 7 Z<|O Z (iv Z Z Z Y Z) Z<|PZ 4 Z ?_;obtain⟨LL2,aq,hLL2⟩:=aq.named;refine bp (rg 2 4++rg 26 22) (fun j t U=>∃(i m:Nat),j+i=cY s/\nR s 0=nR (s.drop i) m/\m<10 ^ i/\i<=4/\t.get 4=some (.int .i64 (.ofNat m))/\t.get 26=some (.int .i64 (.ofNat i))/\J U K LL2) (cY s) ⟨0,0,Z,Z,Nat.one_pos,Nat.zero_le _,Z,Z,aq⟩ ?_;clear aq;intro j5 t U ar hI;obtain⟨i,m,hj,he,hm,X,aa,M,aq⟩:=hI;subst hLL2;obtain⟨oo,rfl⟩:=ar.q2 aa M Z;refine Qz 6 Z<|aD Z (fun z=>?_) (fun z=>?_)
 ·refine OR 11 Z<|QA 4 Z ?_;obtain⟨ab,u⟩:=cq (show i<s.length from by have:=bk z;rwa[bP] at this);refine O Z (fI Y Z Z u) Z<|vQ 1 Z<|ky Z (an Z) (fun A=>?_) (fun A=>?_)
  ·refine QE 15 Z<|av<|aE<|av<|bq<|aE<|av (?_);exact bU Z Z Z ⟨by rw[iq E,he,mg u<|Br A];rfl,aq⟩
  refine Q3 2 Z<|O Z (fI Y Z Z u) Z<|QC 4 Z<|aD Z (fun C=>?_) (fun C=>?_)
  ·refine Q1 7 Z<|av<|aE<|av<|bq<|aE<|av (?_);exact bU Z Z Z ⟨by rw[iq E,he,mg u<|Bq C];rfl,aq⟩
  refine aG<|ad<|ai Z<|Q3 4 Z<|O Z (fI Y Z Z u) Z<|vQ 1 Z ?_;refine O Z (ew (j:=.u8) (k:=.i64) Y Y Y Z) Z ?_;refine Q2 3 Z (aI (Q0 4 Z (aM ⟨j5-1,by have:=bk z;omega,oF,i+1,10*m+(ab-48),by have:=bk z;omega,he.trans<|qo u<|jB A C,by have:=jB A C;rw[Nat.pow_succ];omega,by have:=bk z;have:=hl4;omega,cI<|Ks (jB A C) (by have:=yb i X;omega),cI<|bg B,aq⟩)))
 refine PY 3 Z<|aU<|Q1 8 Z ?_;exact bU Z Z Z ⟨by rw[iq E,he,qn (by have:=br z;rwa[bP] at this)];rfl,aq⟩
end Go.Ev
namespace Go.Ev
variable [Env]
def Oe:List Int->List Int->Int
 | x::l,y::m=>bif D (NN x y) 0 then Oe l m else NN x y
 | _,_=>0
def kP (A B_:List Int) (c:Int):Prop:=∀l m,Oe (A++l) (B_++m)=bif D c 0 then Oe l m else c
theorem kP.nil:kP [] [] 0:=fun _ _=>Z
theorem kP.one (x y:Int):kP [x] [y] (NN x y):=fun _ _=>Z
theorem kP.app {A B_ A' B':List Int} {c c':Int} (h:kP A B_ c) (h':c=0->kP A' B' c'):kP (A++A') (B_++B') (bif D c 0 then c' else c):=fun l m=>by
 rw[lQ_,lQ_,h];simp only[Pg]
 by_cases hc:c=0
 ·simp only[hc,if_true];rw[h' hc];simp only[Pg]
 omega
theorem kP.rows {α:Type} {enc:α->List Int} {c:α->α->Int}:∀{ls ms:List α},ls.length=ms.length->(∀(i:Nat) (x y:α),ls[i]?=some x->ms[i]?=some y->kP (enc x) (enc y) (c x y))->kP (ls.flatMap enc) (ms.flatMap enc) (O6 c ls ms)
 | [],[],_,_=>kP.nil
 | [],_::_,h,_=>by cases h
 | _::_,[],h,_=>by cases h
 | x::ls,y::ms,h,hc=>by
  rw[List.flatMap_cons,List.flatMap_cons];exact(hc 0 x y Z Z).app fun _=>kP.rows (by simpa using h) fun i x y h1 u=>hc (i+1) x y (by simpa using h1) (by simpa using u)
theorem ints_at {xs:List Int} {i:Nat} {x:Int} (h:xs[i]?=some x):(ints xs)[i]?=some (.int .i64 x):=by
 unfold ints;simp_all
theorem fm {K:H} {xs:List Int} {vb e:Nat} (h:K vb (.row (ints xs) e false)) (hn:xs.length<=1000):bJ K 1 cz xs (.slice vb 0 xs.length (.known xs.length)):=by
 refine .inr ⟨vb,0,_,_,e,false,Z,.inr ⟨_,Z,nR_ _⟩,h,?_,by omega,fun i x hx=>?_⟩
 ·unfold ints;simp_all
 rw[Nat.mul_one,nA_,cO<|ints_at hx];rfl
theorem map_take {α β:Type} {f:α->β} {l:List α} {i:Nat} {x:α} (h:l[i]?=some x):(l.take (i+1)).map f=(l.take i).map f++[f x]:=by
 rw[List.take_add_one,h,List.map_append];rfl
theorem gV {xs:List Int} {b e E:Nat} (hn:xs.length<=1000):cN 1 E cz xs (.slice b 0 xs.length (.known xs.length)) [(b,.row (ints xs) e false)]:=by
 refine .inr ⟨b,_,_,e,Z,Z,?_,fun i x hx=>?_,.inl Z,by omega⟩
 ·unfold ints;simp_all
 rw[Nat.mul_one,cO<|ints_at hx];rfl
structure Rd (g:XG):Prop where
 t:g.threads.length<=4
 r:∀l∈g.threads,l.length<=14
 f:g.from_.length<=4
 fr:∀l∈g.from_,l.length<=14
 o:g.order.length<=6
 RM:∀l∈g.order,l.length<=56
 i:g.init.length<=6
abbrev gI (n:Nat):V:=.int .i64 (.ofNat n)
abbrev gS (n:Nat):V:=.int .u8 (.ofNat n)
section
variable {U:I} {K:H} {A M L:Own} {x:Nat×cM}
theorem J.front (h:J U K (A++(M++L))):J U K (M++(A++L)):=h.perm (List.perm_append_comm_assoc A M L)
theorem J.EZ (h:J U K (x::(A++(M++L)))):J U K (x::(M++(A++L))):=h.perm ((List.perm_append_comm_assoc A M L).cons x)
theorem J.behind (h:J U K (x::(M++L))):J U K (M++x::L):=h.perm List.perm_middle.symm
theorem J.ahead (h:J U K (M++x::L)):J U K (x::(M++L)):=h.perm List.perm_middle
end
theorem nk.Nu {α:Type} {m E:Nat} {R:α->List V->Prop} {l:List α} {u:V} {M:Own} (h:nk m E R l u M) {k:Nat} (hk:k<=l.length):
  ∃u',nk m E R (l.take k) u' M/\∀{P:Program} {ev:Operand->Option V} {t:TypeId} {x hi:Operand} {kk:IntKind},P.underlying t=some (.slice E)->(P.info? E).map (·.size)=some m->ev x=some u->ev hi=some (.int kk (.ofNat k))->fD P ev t x none (some hi) none=some u':=by
 rcases h with ⟨rfl,rfl,rfl⟩ | ⟨b,c,cells,e,rfl,rfl,G,h4,h5,h6⟩
 ·refine⟨.au,.inl ⟨List.take_nil,Z,Z⟩,fun {P ev t x hi kk} hu hj hx C=>?_⟩;obtain⟨j,z,rfl⟩:=oM_.1 hj;obtain rfl:k=0:=by simpa using hk
  have:dc ev 0 0 none (some hi)=some (0,0):=pf C (nR_ _);simp only[fD,hu,hx,z,this]
 have hl:(l.take k).length=k:=by simp_all
 have F:∀(i:Nat) (x:α),(l.take k)[i]?=some x->R x ((cells.drop (i*m)).take m):=fun i x hi=>by
  grind
 have hle:k*m<=cells.length:=Nat.le_trans (nM_ _ hk) G;rcases h5 with ⟨n,rfl,h7,Q⟩ | ⟨rfl,rfl⟩
 ·refine⟨.slice b 0 k (.known n),.inr ⟨b,.known n,cells,e,by rw[hl],Z,by rw[hl];exact hle,F,.inl ⟨n,Z,by rw[hl];omega,Q⟩,by rw[hl];omega⟩,fun {P ev t x hi kk} hu hj hx C=>?_⟩;obtain⟨j,z,rfl⟩:=oM_.1 hj;have:dc ev l.length n none (some hi)=some (0,k):=pf C B;simp only[fD,hu,hx,cutAt,this,cut,z]
  simp_all
 refine⟨.slice b 0 k (.upto m),.inr ⟨b,.upto m,cells,e,by rw[hl],Z,by rw[hl];exact hle,F,.inr ⟨Z,Z⟩,by rw[hl];omega⟩,fun {P ev t x hi kk} hu hj hx C=>?_⟩;obtain⟨j,z,rfl⟩:=oM_.1 hj;have:dc ev l.length l.length none (some hi)=some (0,k):=pf C hk;simp only[fD,hu,hx,this,z,show Nat.beq j.size j.size=true from Nat.beq_refl _,cond_true,Nat.zero_mul,Nat.sub_zero,Nat.add_zero]
theorem nk.bG {α:Type} {m E:Nat} {R:α->List V->Prop} {l:List α} {u:V} {M:Own} (h:nk m E R l u M):l.length<=1048576:=by
 rcases h with ⟨rfl,_⟩ | ⟨_,_,_,_,_,_,_,_,_,h⟩
 ·exact Nat.zero_le _
 exact h
theorem Fk {l:List Nat} {i n:Nat} (h:l[i]?=some n):(l.map Int.ofNat)[i]?=some (.ofNat n):=by simp_all
theorem gi (l:List Nat):(l.map Int.ofNat).length=l.length:=lM_ ..
theorem Gv {l:List Nat} {a:Nat} (h:l.getLast?=some a):l[l.length-1]?=some a:=by grind
theorem Ak (l:List Nat):(l.map Int.ofNat).take (l.length-1)=l.dropLast.map Int.ofNat:=by rw[List.dropLast_eq_take,List.map_take]
theorem Db (x:XI) (a:Nat):(fw x a).length<=2:=by
 grind [fw]
where
 cond_ind2 {a b:List Int} (c:Bool) (h1:a.length<=2) (h0:b.length<=2):(bif c then a else b).length<=2:=by grind
theorem uF {c:XC} {a:Nat} {x:XI} (h:c.ins[a]?=some x):(cV c a).length=(fw x a).length:=by unfold cV;rw[h];simp
theorem J3 {c:XC} {a g:Nat} {x:XI} {to:Int} (h:c.ins[a]?=some x) (ht:(fw x a)[g]?=some to):(cV c a)[g]?=some to.toNat:=by
 grind [cV]
theorem J4 {c:XC} {a g:Nat} {x:XI} (h:c.ins[a]?=some x) (u:(fw x a).length<=g):(cV c a)[g]?=none:=by
 rw[List.getElem?_eq_none_iff,uF h];exact u
theorem rF {k:Nat} {c:XC} (hc:eK k c) {a g:Nat} {x:XI} {to:Int} (h:c.ins[a]?=some x) (C:(fw x a)[g]?=some to):∃t:Nat,to= .ofNat t/\t<c.ins.length/\(cV c a)[g]?=some t:=by
 have hlt:=(gA.1 h).1;have hN:=J3 h C;have hm:=rG hc a hlt _ (gB_ hN);refine⟨to.toNat,?_,hm,hN⟩;have hx:=hc.right x (gB_ h);obtain⟨n,sh,E,n1,z,u,F⟩:=iX hx;have hto:=(ig F).to;have hmem:=gB_ C;unfold fw at hmem;rw[E] at hmem;have tole:sh.to=true->0<=x.to/\x.to<(c.ins.length:Int):=fun e=>by rw[e] at hto;exact lN hto
 have nn:∀y:Int,0<=y->y= .ofNat y.toNat:=fun y hy=>by grind
 match n,n1,z with
 | 1,_,_ | 2,_,_ | 3,_,_ | 4,_,_ | 5,_,_ | 6,_,_ | 7,_,_ | 8,_,_ | 9,_,_=>
  have e:to= .ofNat (a+1):=List.mem_singleton.1 (show to∈[Int.ofNat (a+1)] from hmem);rw[e];rfl
 | 10,_,_=>
  have e:to=x.to:=List.mem_singleton.1 (show to∈[x.to] from hmem);have:=tole (by cases u;rfl)
  grind
 | 11,_,_=>
  have e:to= .ofNat (a+1)∨to=x.to:=by grind
  have:=tole (by cases u;rfl)
  grind
 | 12,_,_ | 13,_,_=>exact absurd (show to∈([]:List Int) from hmem) (by simp)
theorem DL {c:XC}:total (cV c) c.ins.length<=2*c.ins.length:=by
 have h:∀(l:List Nat),(l.map fun i=>(cV c i).length).sum<=2*l.length:=by
  intro l;induction l with
  | nil=>simp
  | cons i l ih=>
   grind [cV,Db]
 have:=h (List.range c.ins.length);rwa[List.length_range] at this
theorem LX {nx:Nat->List Nat} {f:Nat} {s:DS} (h:s.path.length=0):wZ nx (f+1) s=some s.out:=by
 unfold wZ
 simp_all
theorem w6 {nx:Nat->List Nat} {f a:Nat} {s s':DS} (h:s.path.getLast?=some a) (hd:kK nx s a=some s'):wZ nx (f+1) s=wZ nx f s':=by
 conv=>lhs;unfold wZ
 simp_all
theorem Ji {nx:Nat->List Nat} {f a:Nat} {s:DS} (h:s.path.getLast?=some a) (hd:kK nx s a=none):wZ nx (f+1) s=none:=by
 conv=>lhs;unfold wZ
 simp_all
theorem HD {nx:Nat->List Nat} {s:DS} {a g:Nat} (hg:s.gone[a]?=some g) (hn:(nx a)[g]?=none):kK nx s a=some {s with st:=s.st.set a 2,out:=s.out++[a],path:=s.path.dropLast}:=by
 unfold kK;simp_all
theorem EL {nx:Nat->List Nat} {s:DS} {a g to:Nat} (hg:s.gone[a]?=some g) (hn:(nx a)[g]?=some to) (hv:s.st[to]?=some 2):kK nx s a=some {s with gone:=s.gone.set a (g+1)}:=by
 grind [kK]
theorem EJ {nx:Nat->List Nat} {s:DS} {a g to:Nat} (hg:s.gone[a]?=some g) (hn:(nx a)[g]?=some to) (hv:s.st[to]?=some 1):kK nx s a=none:=by
 grind [kK]
theorem EK {nx:Nat->List Nat} {s:DS} {a g to v:Nat} (hg:s.gone[a]?=some g) (hn:(nx a)[g]?=some to) (hv:s.st[to]?=some v) (h2:v≠2) (h1:v≠1):kK nx s a=some {s with gone:=s.gone.set a (g+1),st:=s.st.set to 1,path:=s.path++[to]}:=by
 unfold kK;simp_all
theorem EP {a b:Nat} (h:D (.ofNat a) (.ofNat b)=false):a≠b:=fun e=>by rw[e,fG] at h;simp at h
theorem Nf {P:Program} {G:Cx} {ev:Operand->Option V} {U:I} {s d:TypeId} {e:Nat} {x:Operand} {l:List Nat} (hk:kindOf P (.convert s d x)= .kN) (u:P.underlying s=some .string) (z:P.underlying d=some (.slice e)) (he:P.underlying e=some (.int .u8)) (hc:Nat.beq (P.cellsOf e) 1=true) (hx:ev x=some (.str l)):
  dX P G ev U (.convert s d x)= .val (.slice U.next 0 (cY l) (.upto 1)) (U.alloc (.row (l.map gS) e true)):=by
 refine lA hk ?_;have hm:zc (fun c=>V.int .u8 (Int.ofNat c)) l=l.map gS:=mq _ _;simp only[gK,hx,mM,u,z,he,hc,cond_true,hm]
theorem Jj {s:List Nat} {i m c n:Nat} (h:nR (s.drop i) m=some n) (hc:s[i]?=some c):(48<=c/\c<=57)/\nR (s.drop (i+1)) (10*m+(c-48))=some n:=by
 grind [qo,mg]
theorem yj {s:List Nat} {n:Nat} (h:iT s=some n):0<s.length/\s.length<=4/\nR s 0=some n:=by
 grind [iT]
theorem Jk {c m:Nat} (h:48<=c/\c<=57) (hm:m<=100000):wr .i64 (Int.add (wr .i64<|Int.mul (.ofNat m) 10)<|wr .i64<|wr .u8<|Int.sub (.ofNat c) 48)= .ofNat (10*m+(c-48)):=by
 have e1:Int.sub (.ofNat c) 48= .ofNat (c-48):=by grind
 have z:Int.mul (.ofNat m) 10= .ofNat (10*m):=by grind
 have A:wr .u8 (.ofNat (c-48))= .ofNat (c-48):=by
  show(bif Nat.ble (c-48) 255 then _ else _)=_
  grind [nE_]
 have u:∀q:Nat,q<=9223372036854775807->wr .i64 (.ofNat q)= .ofNat q:=fun q hq=>by
  show(bif Nat.ble q 9223372036854775807 then _ else _)=_
  grind [nE_]
 rw[e1,z,A,u _ B,u _ B];show wr .i64 (.ofNat (10*m+(c-48)))=_;exact u _ B
theorem N0 {c:Nat} (h:48<=c/\c<=57):bR 9 (wr .u8<|Int.sub (.ofNat c) 48)=false:=by
 have e1:Int.sub (.ofNat c) 48= .ofNat (c-48):=by grind
 have w1:wr .u8 (.ofNat (c-48))= .ofNat (c-48):=by
  show(bif Nat.ble (c-48) 255 then _ else _)=_
  grind [nE_]
 grind [fo]
def nA {α:Type} (f:α->Int) (l:List α) (i:Nat):List Int:=(l.take i).map f++List.replicate (l.length-i) 0
theorem xm {α:Type} (f:α->Int) (l:List α):nA f l 0=List.replicate l.length 0:=by unfold nA;simp
theorem zI {α:Type} {f:α->Int} {l:List α} {i:Nat} (h:l.length<=i):nA f l i=l.map f:=by unfold nA;rw[tL_ h,show l.length-i=0 by omega];simp
theorem rq {α:Type} {f:α->Int} {l:List α} {i:Nat} (h:i<=l.length):(nA f l i).length=l.length:=by grind [nA]
theorem zJ {α:Type} {f:α->Int} {l:List α} {i:Nat} {x:α} (h:l[i]?=some x):(nA f l i).set i (f x)=nA f l (i+1):=by
 have hlt:=(gA.1 h).1;unfold nA;have u:((l.take i).map f).length=i:=by grind
 rw[List.set_append_right _ _ B,u,Nat.sub_self,show l.length-i=(l.length-(i+1))+1 by omega,List.replicate_succ,List.set_cons_zero,List.take_add_one,h,List.map_append];simp
theorem J.Jp {U:I} {K:H} {x y:Nat×cM} {L:Own} (h:J U K (x::y::L)):J U K (x::L):=(h.perm<|List.Perm.swap ..).pop
theorem eE.mono {K K':H} (hk:H.le K K'):∀{k:Nat} {x:XE} {vs:List V},eE K k x vs->eE K' k x vs
 | 0,x,_,h=>by cases x;exact h.elim
 | k+1,.mk _ _ _ _,_,⟨v,h1,u⟩=>⟨v,h1,u.mono hk fun _ _ h=>eE.mono hk h⟩
theorem gp.mono {K K':H} (hk:H.le K K') {k:Nat} {x:XI} {vs:List V} (h:gp K k x vs):gp K' k x vs:=let ⟨v,h1,u⟩:=h;⟨v,h1,u.mono hk fun _ _ h=>h.mono hk⟩
theorem jc.mono {K K':H} (hk:H.le K K') {k:Nat} {x:XC} {vs:List V} (h:jc K k x vs):jc K' k x vs:=let ⟨v,h1,u⟩:=h;⟨v,h1,u.mono hk fun _ _ h=>h.mono hk⟩
theorem pj {K K':H} (hk:H.le K K') {k:Nat} {l:List XI} {v:V} (h:bJ K 6 (gp K k) l v):bJ K' 6 (gp K' k) l v:=h.mono hk fun _ _ h=>h.mono hk
theorem kU {K K':H} (hk:H.le K K') {k:Nat} {l:List XE} {v:V} (h:bJ K 4 (eE K k) l v):bJ K' 4 (eE K' k) l v:=h.mono hk fun _ _ h=>h.mono hk
theorem kS {P:Program} {G:Cx} {f:Nat} {args:List V} {U:I} {K:H} {M L:Own} {u:V} (h0:J U K (M++L)) (h:bm P G f args U fun v U'=>v=u/\J U' (K.gF M) L):bm P G f args U fun v U'=>v=u/\J U' K (M++L):=
 h.mono fun _ _ ⟨a,b⟩=>⟨a,h0.tU b⟩
theorem Ch (b o:Nat):dZ (.ptr b o) (.ptr b o)=true:=by
 unfold dZ;show(dZ.beqP b b && Nat.beq o o)=true
 grind [dZ.beqP,Nat.beq_refl]
abbrev IM (c:XC) (cv:V) (s:TS) (rb:Nat) (ev:V):List V:=[.int .i64 c.bc,cv,.int .i64 (.ofNat s.at_),.slice rb 0 s.bc.length (.known s.bc.length),ev,.int .i64 (.ofNat s.asked),.int .i64 s.fin,.bool s.asks]
theorem mj {bc nins:Int} {k n:Nat} {x:XI} (h:fT bc nins k x=true) (z:x.kind= .ofNat n) (h1:n=1∨n=3∨n=4∨n=5∨n=6∨n=8∨n=9∨n=11):∃e,x.exprs[0]?=some e/\eo bc k e=true:=by
 obtain⟨m,sh,hm,_,_,u,hr⟩:=iX h;have hr:=ig hr;have:m=n:=iJ_ (hm.symm.trans z);subst this
 have hl:0<x.exprs.length:=by
  rw[hr.exprs];rcases h1 with h1 | h1 | h1 | h1 | h1 | h1 | h1 | h1<;>subst h1<;>cases u<;>decide
 exact⟨x.exprs[0],gC hl,hr.all _<|List.getElem_mem hl⟩
theorem Bp {bc nins:Int} {k n:Nat} {x:XI} (h:fT bc nins k x=true) (z:x.kind= .ofNat n) (h1:n=1∨n=2∨n=4∨n=5∨n=6):∃r:Nat,x.qd= .ofNat r/\(r:Int)<bc:=by
 obtain⟨m,sh,hm,_,_,u,hr⟩:=iX h;have hr:=ig hr;have:m=n:=iJ_ (hm.symm.trans z);subst this
 have A:sh.qd=true:=by
  rcases h1 with h1 | h1 | h1 | h1 | h1<;>subst h1<;>cases u<;>rfl
 have:=hr.qd;rw[A] at this;obtain⟨w1,w2⟩:=lN this;exact⟨x.qd.toNat,by grind,by omega⟩
theorem G3 {bc:Int} {m k n:Nat} {x:XI} (h:fT bc (.ofNat m) k x=true) (A:x.kind= .ofNat n) (h1:n=10∨n=11):∃r:Nat,x.to= .ofNat r/\r<m:=by
 obtain⟨q,sh,hm,_,_,u,hr⟩:=iX h;have hr:=ig hr;have:q=n:=iJ_ (hm.symm.trans A);subst this;have C:sh.to=true:=by rcases h1 with h1 | h1<;>subst h1<;>cases u<;>rfl
 have:=hr.to;rw[C] at this;obtain⟨w1,z⟩:=lN this;have z:x.to<(m:Int):=z;exact⟨x.to.toNat,by grind,by omega⟩
theorem fA {k i:Nat} {bc:List Int} {x:XI} {e:XE} (h:x.exprs[i]?=some e):fW k bc x i=eQ bc k e:=by unfold fW;rw[h];rfl
theorem tl {k i:Nat} {bc:List Int} {x:XI} (h:x.exprs.length<=i):fW k bc x i=0:=by unfold fW;simp_all
end Go.Ev
namespace Go.Ev
variable [Env]
open Go.Proofs
set_option maxRecDepth 4000
set_option maxHeartbeats 8000000
theorem NX {G:Cx} (M:Plain G) {K:H} (op:Int) {U:I} {L:Own} (aq:J U K L):bm Tryz.prog G 260 [.int .i64 op] U fun v U'=>v= .int .i64 (si op)/\J U' K L:=by
 refine QX M Tryz.func260 Z<|PU 7 Z<|QA 4 Z<|ky Z (an Z) (fun C=>?_) (fun C=>?_)
 ·refine QE 13 Z<|aE<|av (?_);exact aB Z Z ⟨cJ (by unfold si bd;simp only[C,ct,cf]<;>rfl),aq⟩
 refine QC 6 Z<|aD Z (fun E=>?_) (fun E=>?_)
 ·refine Q1 6 Z<|aE<|av (?_);exact aB Z Z ⟨cJ (by unfold si bd;simp only[C,E,ct,cf]<;>rfl),aq⟩
 refine QA 4 Z<|ky Z (an Z) (fun u=>?_) (fun u=>?_)
 ·refine QE 13 Z<|aE<|av (?_);exact aB Z Z ⟨cJ (by unfold si bd;simp only[C,E,u,ct,cf]<;>rfl),aq⟩
 refine QC 6 Z<|aD Z (fun z=>?_) (fun z=>?_)
 ·refine Q1 6 Z<|aE<|av (?_);exact aB Z Z ⟨cJ (by unfold si bd;simp only[C,E,u,z,ct,cf]<;>rfl),aq⟩
 refine QA 4 Z<|ky Z (an Z) (fun A=>?_) (fun A=>?_)
 ·refine QC 6 Z<|aD Z (fun F=>?_) (fun F=>?_)
  ·refine Q1 6 Z<|aE<|av (?_);exact aB Z Z ⟨cJ (by unfold si bd;simp only[C,E,u,z,A,F,ct,cf]<;>rfl),aq⟩
  refine aG<|aI<|Q1 6 Z ?_;exact aB Z Z ⟨cJ (by unfold si bd;simp only[C,E,u,z,A,F,ct,cf]<;>rfl),aq⟩
 refine P2 9 Z<|Q1 6 Z ?_;exact aB Z Z ⟨cJ (by unfold si bd;simp only[C,E,u,z,A,ct,cf]<;>rfl),aq⟩
theorem Jd {G:Cx} (A:Plain G) {K:H} (c:Nat) {U:I} {L:Own} (aq:J U K L):bm Tryz.prog G 283 [.int .u8 (.ofNat c)] U fun v U'=>v= .bool (Ba c)/\J U' K L:=by
 refine QX A Tryz.func283 Z<|QA 9 Z<|ky Z (an Z) (fun h5=>?_) (fun h5=>?_)
 ·refine Q3 3 Z<|ky Z (an Z) (fun z=>?_) (fun z=>?_)
  ·refine QE 11 Z ?_;exact aB Z Z ⟨congrArg (V.bool) (by unfold Ba bd;simp only[h5,z,ct,cf]<;>rfl),aq⟩
  refine Q3 2 Z<|ky Z (an Z) (fun u=>?_) (fun u=>?_)
  ·refine QE 8 Z ?_;exact aB Z Z ⟨congrArg (V.bool) (by unfold Ba bd;simp only[h5,z,u,ct,cf]<;>rfl),aq⟩
  refine QE 8 Z ?_;exact aB Z Z ⟨congrArg (V.bool) (by unfold Ba bd;simp only[h5,z,u,ct,cf]<;>rfl),aq⟩
 refine Q3 6 Z<|ky Z (an Z) (fun u=>?_) (fun u=>?_)
 ·refine QE 8 Z ?_;exact aB Z Z ⟨congrArg (V.bool) (by unfold Ba bd;simp only[h5,u,ct,cf]<;>rfl),aq⟩
 refine QE 8 Z ?_;exact aB Z Z ⟨congrArg (V.bool) (by unfold Ba bd;simp only[h5,u,ct,cf]<;>rfl),aq⟩
theorem LQ {G:Cx} (u:Plain G) {K:H} (c:Nat) {U:I} {L:Own} (aq:J U K L):bm Tryz.prog G 284 [.int .u8 (.ofNat c)] U fun v U'=>v= .bool (HA c)/\J U' K L:=by
 refine QX u Tryz.func284 Z<|QA 9 Z<|ky Z (an Z) (fun h5=>?_) (fun h5=>?_)
 ·refine QE 7 Z ?_;exact aB Z Z ⟨congrArg (V.bool) (by unfold HA bd;simp only[h5,ct,cf]<;>rfl),aq⟩
 refine QE 7 Z ?_;exact aB Z Z ⟨congrArg (V.bool) (by unfold HA bd;simp only[h5,ct,cf]<;>rfl),aq⟩
theorem lI {G:Cx} (C:Plain G) {K:H} (x:Int) {U:I} {L:Own} (aq:J U K L):bm Tryz.prog G 230 [.int .i64 x] U fun v U'=>v= .bool (rU x)/\J U' K L:=by
 refine QX C Tryz.func230 Z<|QA 9 Z<|ky Z (an Z) (fun h5=>?_) (fun h5=>?_)
 ·refine QE 19 Z ?_;exact aB Z Z ⟨congrArg (V.bool) (by unfold rU;simp only[h5,ct,cf]<;>rfl),aq⟩
 refine Q3 3 Z<|ky Z (an Z) (fun A=>?_) (fun A=>?_)
 ·refine QE 15 Z ?_;exact aB Z Z ⟨congrArg (V.bool) (by unfold rU;simp only[h5,A,ct,cf]<;>rfl),aq⟩
 refine Q3 3 Z<|ky Z (an Z) (fun u=>?_) (fun u=>?_)
 ·refine QE 11 Z ?_;exact aB Z Z ⟨congrArg (V.bool) (by unfold rU;simp only[h5,A,u,ct,cf]<;>rfl),aq⟩
 refine Q3 3 Z<|ky Z (an Z) (fun z=>?_) (fun z=>?_)
 ·refine QE 7 Z ?_;exact aB Z Z ⟨congrArg (V.bool) (by unfold rU;simp only[h5,A,u,z,ct,cf]<;>rfl),aq⟩
 refine QE 7 Z ?_;exact aB Z Z ⟨congrArg (V.bool) (by unfold rU;simp only[h5,A,u,z,ct,cf]<;>rfl),aq⟩
theorem LR {G:Cx} (hG:Plain G) {K:H} (x:Int) {U:I} {L:Own} (aq:J U K L):bm Tryz.prog G 231 [.int .i64 x] U fun v U'=>v= .int .i64 (gJ x)/\J U' K L:=by
 refine QX hG Tryz.func231 Z<|PU 12 Z<|PV 3 Z<|ky Z (az Z Z Z) (fun h5=>?_) (fun h5=>?_)
 ·refine P3 13 Z<|aE<|av (?_);exact aB Z Z ⟨cJ (by unfold gJ;simp only[h5,ct,cf]<;>rfl),aq⟩
 refine P1 6 Z<|ky Z (az Z Z Z) (fun E=>?_) (fun E=>?_)
 ·refine P3 13 Z<|aE<|av (?_);exact aB Z Z ⟨cJ (by unfold gJ;simp only[h5,E,ct,cf]<;>rfl),aq⟩
 refine P1 6 Z<|ky Z (az Z Z Z) (fun F=>?_) (fun F=>?_)
 ·refine P3 13 Z<|aE<|av (?_);exact aB Z Z ⟨cJ (by unfold gJ;simp only[h5,E,F,ct,cf]<;>rfl),aq⟩
 refine P1 6 Z<|ky Z (az Z Z Z) (fun Q=>?_) (fun Q=>?_)
 ·refine P3 13 Z<|aE<|av (?_);exact aB Z Z ⟨cJ (by unfold gJ;simp only[h5,E,F,Q,ct,cf]<;>rfl),aq⟩
 refine P1 6 Z<|ky Z (az Z Z Z) (fun R=>?_) (fun R=>?_)
 ·refine P3 13 Z<|aE<|av (?_);exact aB Z Z ⟨cJ (by unfold gJ;simp only[h5,E,F,Q,R,ct,cf]<;>rfl),aq⟩
 refine P1 6 Z<|ky Z (az Z Z Z) (fun u=>?_) (fun u=>?_)
 ·refine P3 13 Z<|aE<|av (?_);exact aB Z Z ⟨cJ (by unfold gJ;simp only[h5,E,F,Q,R,u,ct,cf]<;>rfl),aq⟩
 refine QD 5 Z<|ky Z (az Z Z Z) (fun z=>?_) (fun z=>?_)
 ·refine QE 10 Z<|aE<|av (?_);exact aB Z Z ⟨cJ (by unfold gJ;simp only[h5,E,F,Q,R,u,z,ct,cf]<;>rfl),aq⟩
 refine P1 6 Z<|ky Z (az Z Z Z) (fun A=>?_) (fun A=>?_)
 ·refine QE 10 Z<|aE<|av (?_);exact aB Z Z ⟨cJ (by unfold gJ;simp only[h5,E,F,Q,R,u,z,A,ct,cf]<;>rfl),aq⟩
 refine Pw 7 Z<|ky Z (az Z Z Z) (fun C=>?_) (fun C=>?_)
 ·refine P3 13 Z<|aE<|av (?_);exact aB Z Z ⟨cJ (by unfold gJ;simp only[h5,E,F,Q,R,u,z,A,C,ct,cf]<;>rfl),aq⟩
 refine P1 6 Z<|ky Z (az Z Z Z) (fun M=>?_) (fun M=>?_)
 ·refine P3 13 Z<|aE<|av (?_);exact aB Z Z ⟨cJ (by unfold gJ;simp only[h5,E,F,Q,R,u,z,A,C,M,ct,cf]<;>rfl),aq⟩
 refine P1 6 Z<|ky Z (az Z Z Z) (fun W=>?_) (fun W=>?_)
 ·refine P3 13 Z<|aE<|av (?_);exact aB Z Z ⟨cJ (by unfold gJ;simp only[h5,E,F,Q,R,u,z,A,C,M,W,ct,cf]<;>rfl),aq⟩
 refine P1 6 Z<|ky Z (az Z Z Z) (fun X=>?_) (fun X=>?_)
 ·refine P3 13 Z<|aE<|av (?_);exact aB Z Z ⟨cJ (by unfold gJ;simp only[h5,E,F,Q,R,u,z,A,C,M,W,X,ct,cf]<;>rfl),aq⟩
 refine QD 5 Z<|ky Z (az Z Z Z) (fun aa=>?_) (fun aa=>?_)
 ·refine QE 10 Z<|aE<|av (?_);exact aB Z Z ⟨cJ (by unfold gJ;simp only[h5,E,F,Q,R,u,z,A,C,M,W,X,aa,ct,cf]<;>rfl),aq⟩
 refine P2 6 Z<|Q1 6 Z ?_;exact aB Z Z ⟨cJ (by unfold gJ;simp only[h5,E,F,Q,R,u,z,A,C,M,W,X,aa,ct,cf]<;>rfl),aq⟩
theorem EG {G:Cx} (z:Plain G) {K:H} (x:Int) {U:I} {L:Own} (aq:J U K L):bm Tryz.prog G 232 [.int .i64 x] U fun v U'=>v= .bool (lM x)/\J U' K L:=by
 refine QX z Tryz.func232 Z<|QA 9 Z<|ky Z (an Z) (fun h5=>?_) (fun h5=>?_)
 ·refine QE 11 Z ?_;exact aB Z Z ⟨congrArg (V.bool) (by unfold lM bd;simp only[h5,ct,cf]<;>rfl),aq⟩
 refine vQ 1 Z<|bj Z (RC Z Z Z) (fun _=>Z) (lI z _ aq) (fun U aq=>?_);refine ky Z (an Z) (fun u=>?_) (fun u=>?_)
 ·refine QE 8 Z ?_;exact aB Z Z ⟨congrArg (V.bool) (by unfold lM bd;simp only[h5,u,ct,cf]<;>rfl),aq⟩
 refine QE 8 Z ?_;exact aB Z Z ⟨congrArg (V.bool) (by unfold lM bd;simp only[h5,u,ct,cf]<;>rfl),aq⟩
theorem JS {K:H} {b e:Nat} (h:K b (.row (pZ.map V.str) e false)):bJ K 1 gk pZ (.slice b 0 20 (.known 20)):=by
 refine .inr ⟨b,0,.known 20,_,e,false,Z,.inr ⟨20,Z,by decide⟩,h,by decide,by decide,fun i x hx=>?_⟩;rw[nA_,Nat.mul_one];have:(pZ.map V.str)[i]?=some (.str x):=by rw[gM_,hx];rfl
 rw[cO this];rfl
theorem NW {G:Cx} (u:Plain G) {K:H} {U:I} {L:Own} (aq:J U K L):bm Tryz.prog G 287 [] U fun v U'=>∃M,bJ (K.gF M) 1 gk pZ v/\J U' K (M++L):=by
 refine QX u Tryz.func287 Z<|QA 7 Z<|gD aq Z (bW (e:=9) (m:=1) (z:=[.str []]) (cs:=pZ.map V.str) Y Y Y Y (by rfl)) (fun _=>Z) (fun U A aq=>?_);refine QE 4 Z ?_;exact aB Z Z ⟨[(A,.row (pZ.map V.str) 9 false)],JS (.inr (.head _)),aq⟩
theorem NY {G:Cx} (R:Plain G) {K:H} (s:List Nat) {U:I} {L:Own} (aq:J U K L):bm Tryz.prog G 285 [.str s] U fun v U'=>v= .int .i64 (bif isKey s then 2 else 1)/\J U' K L:=by
 refine QX R Tryz.func285 Z<|QA 7 Z<|cd Z (RC Z Z Z) (fun _=>Z) (NW R aq) ?_;rintro u U ⟨M,hk,aq⟩;replace aq:=aq.keeps;have ae:pZ.length=20:=rfl;refine Pv 10 Z ?_;obtain⟨LL1,aq,hLL1⟩:=aq.named;refine bp ([2,4]++rg 6 12) (fun j t U=>∃(i:Nat),j+i=pZ.length/\(pZ.take i).any (fun k=>gY k s)=false/\t.get 4=some (.int .i64 (.ofNat i))/\J U (K.gF M) LL1) (pZ.length) ⟨0,Z,Z,Z,aq⟩ ?_;clear aq;intro X t U ar hI;obtain⟨i,hj,W,F,aq⟩:=hI;subst hLL1;obtain⟨oo,rfl⟩:=ar.q1 F Z;refine PV 5 Z<|O Z (RG hk Z Z Z (e:=9) Z) Z<|QC 3 Z<|aD Z (fun Q=>?_) (fun Q=>?_)
 ·refine OS 8 Z ?_;obtain⟨am,z,aa⟩:=cE Q;refine Rx (e:=9) (m:=1) hk z Z Z Z Z (fun ao ab C ac E=>?_);obtain rfl:=E;refine O Z (RI aq C Z Z) Z<|QC 4 Z<|aD Z (fun A=>?_) (fun A=>?_)
  ·refine Q1 6 Z<|aE<|av<|bq<|aE<|av (?_);exact aB Z Z ⟨cJ (by rw[show isKey s=true from lP z A];rfl),aq.weaken<|H.bY _ _⟩
  refine aG<|aI<|Q0 5 Z<|aM ⟨X-1,by omega,oF,i+1,by omega,jl W z A,cI<|bg B,aq⟩
 refine PY 3 Z<|aU<|Q1 6 Z ?_;exact aB Z Z ⟨cJ (by rw[show isKey s=false from fP W (br Q)];rfl),aq.weaken<|H.bY _ _⟩
theorem Nm {s:List Nat} {U:I} {K:H} {L:Own} (h:dL true s=false) (aq:J U K L):∃m,V.tuple [T,.bool false]= .tuple [.int .i64 m,.bool (bif dL true s then bd (gY s []) else false)]/\(gY s []=false->dL true s=true->m=bif isKey s then 2 else 1)/\J U K L:=by
 rw[h];exact⟨_,Z,(fun _ h=>by cases h),aq⟩
theorem NP {s:List Nat} {U:I} {K:H} {L:Own} (h:gY s []=true) (aq:J U K L):∃m,V.tuple [T,.bool false]= .tuple [.int .i64 m,.bool (bif dL true s then bd (gY s []) else false)]/\(gY s []=false->dL true s=true->m=bif isKey s then 2 else 1)/\J U K L:=by
 rw[h];exact⟨_,(by cases dL true s<;>rfl),(fun h=>by cases h),aq⟩
theorem NQ {s:List Nat} {U:I} {K:H} {L:Own} (hc:dL true s=true) (h:gY s []=false) (aq:J U K L):∃m,V.tuple [.int .i64 (bif isKey s then 2 else 1),.bool true]= .tuple [.int .i64 m,.bool (bif dL true s then bd (gY s []) else false)]/\(gY s []=false->dL true s=true->m=bif isKey s then 2 else 1)/\J U K L:=by
 rw[h,hc];exact⟨_,Z,fun _ _=>Z,aq⟩
theorem LP {G:Cx} (Q:Plain G) {K:H} (s:List Nat) (hlen:s.length<=9223372036854775807) {U:I} {L:Own} (aq:J U K L):bm Tryz.prog G 275 [.str s] U fun v U'=>∃m,v= .tuple [.int .i64 m,.bool (bif dL true s then bd (gY s []) else false)]/\(gY s []=false->dL true s=true->m=bif isKey s then 2 else 1)/\J U' K L:=by
 refine QX Q Tryz.func275 Z<|PU 13 Z ?_;obtain⟨LL1,aq,hLL1⟩:=aq.named;refine bp (rg 2 31) (fun j t U=>∃(i:Nat),j+i=cY s/\dL true s=dL (D (.ofNat i) 0) (s.drop i)/\t.get 4=some (.int .i64 (.ofNat i))/\J U K LL1) (cY s) ⟨0,Z,Z,Z,aq⟩ ?_;clear aq;intro R t U ar X;obtain⟨i,hj,he,W,aq⟩:=X;subst hLL1;obtain⟨oo,rfl⟩:=ar.q1 W Z;refine PV 5 Z<|O Z (iv Z Z Z Y Z) Z<|QC 3 Z<|aD Z (fun A=>?_) (fun A=>?_)
 ·refine OS 8 Z ?_;obtain⟨aa,u⟩:=cq (show i<s.length from by have:=bk A;rwa[bP] at this);refine O Z (fI Y Z Z u) Z<|Bh Z (RC Z Z Z) (fun _=>Z) (Jd Q _ aq) (fun z U aq=>?_) (fun z U aq=>?_)
  ·refine O Z (cT Z) Z (P2 22 Z (Q0 5 Z (aM ⟨R-1,by have:=bk A;omega,oF,i+1,by have:=bk A;omega,he.trans<|sK u (by unfold vW bd;simp only[z,ct,cf]<;>rfl),cI<|bg (by have:=bk A;rw[bP] at this;omega),aq⟩)))
  refine O Z (cT Z) Z<|Q3 3 Z<|ky Z (an Z) (fun C=>?_) (fun C=>?_)
  ·refine QE 23 Z<|aE<|av<|bq<|aE<|av (?_);exact bU Z Z Z<|Nm (he.trans<|wR u (by unfold vW bd;simp only[z,C,ct,cf]<;>rfl)) aq
  refine Q3 2 Z<|O Z (fI Y Z Z u) Z<|Bh Z (RC Z Z Z) (fun _=>Z) (LQ Q _ aq) (fun E U aq=>?_) (fun E U aq=>?_)
  ·refine O Z (cT Z) Z (P2 13 Z (Q0 5 Z (aM ⟨R-1,by have:=bk A;omega,oF,i+1,by have:=bk A;omega,he.trans<|sK u (by unfold vW bd;simp only[z,C,E,ct,cf]<;>rfl),cI<|bg (by have:=bk A;rw[bP] at this;omega),aq⟩)))
  refine O Z (cT Z) Z<|Q3 3 Z<|O Z (fI Y Z Z u) Z<|QC 6 Z<|aD Z (fun F=>?_) (fun F=>?_)
  ·refine Q1 7 Z<|aE<|av<|bq<|aE<|av (?_);exact bU Z Z Z<|Nm (he.trans<|wR u (by unfold vW bd;simp only[z,C,E,F,ct,cf]<;>rfl)) aq
  refine aG (aI (Q0 5 Z (aM ⟨R-1,by have:=bk A;omega,oF,i+1,by have:=bk A;omega,he.trans<|sK u (by unfold vW bd;simp only[z,C,E,F,ct,cf]<;>rfl),cI<|bg (by have:=bk A;rw[bP] at this;omega),aq⟩)))
 refine PY 3 Z<|aU<|Qz 7 Z<|aD Z (fun M=>?_) (fun M=>?_)
 ·refine QB 8 Z ?_;exact bU Z Z Z<|NP M aq
 refine PX 5 Z<|bj Z (RC Z Z Z) (fun _=>Z) (NY Q _ aq) (fun U aq=>?_);refine QE 5 Z ?_;exact bU Z Z Z<|NQ (he.trans<|Hv (by have:=br A;rwa[bP] at this)) M aq
theorem La {s:List Nat} {m:Int} (h:(bif dL true s then bd (gY s []) else false)=true) (hm:gY s []=false->dL true s=true->m=bif isKey s then 2 else 1):D m 1=kF s:=by
 have h1:dL true s=true:=by cases hc:dL true s with | true=>rfl | false=>rw[hc] at h;cases h
 have u:gY s []=false:=by rw[h1] at h;exact Pl.1 h
 rw[hm u h1];unfold kF;rw[h1,u];cases isKey s<;>rfl
theorem Nd {s:List Nat} (h:(bif dL true s then bd (gY s []) else false)=false):false=kF s:=by
 unfold kF;cases hc:dL true s with
 | false=>rfl
 | true=>
  rw[hc] at h;rw[show gY s []=true from Rv.1 h];rfl
theorem NU {G:Cx} (z:Plain G) {K:H} (s:List Nat) (hlen:s.length<=9223372036854775807) {U:I} {L:Own} (aq:J U K L):bm Tryz.prog G 261 [.str s] U fun v U'=>v= .bool (kF s)/\J U' K L:=by
 refine QX z Tryz.func261 Z<|QA 8 Z<|cd Z (RC Z Z Z) (fun _=>Z) (LP z _ hlen aq) ?_;rintro _ U ⟨m,rfl,hm,aq⟩;refine P1 10 Z<|ky Z (an Z) (fun u=>?_) (fun u=>?_)
 ·refine QE 7 Z ?_;exact aB Z Z ⟨cB<|La u hm,aq⟩
 refine QE 7 Z ?_;exact aB Z Z ⟨cB<|Nd u,aq⟩
theorem NZ {G:Cx} (R:Plain G) {K:H}:∀(k:Nat) (x:XE) (vs:List V),eE K k x vs->db k x<=1000000->∀(U:I) (L:Own),J U K L->bm Tryz.prog G 227 [.agg vs] U fun v U'=>v= .int .i64 (.ofNat<|db k x)/\J U' K L:=by
 intro k;induction k with
 | zero=>intro x vs h;cases x;exact h.elim
 | succ k ih=>
 intro x vs W Q U L aq;obtain⟨op,num,name,kids⟩:=x;obtain⟨v,rfl,hk⟩:=W;have Q:(kids.map<|db k).sum+1<=1000000:=Q;refine QX R Tryz.func227 Z<|QA 2 Z<|kp aq Z (cA Z Z) (fun U b1 aq=>?_);refine Pv 15 Z ?_;obtain⟨LL1,aq,hLL1⟩:=aq.named;refine bp (rg 3 17) (fun j t U=>∃(i m:Nat),j+i=kids.length/\m=((kids.take i).map<|db k).sum+1/\t.get 3=some (.int .i64 (.ofNat m))/\t.get 4=some (.int .i64 (.ofNat i))/\J U K LL1) (kids.length) ⟨0,1,Z,Z,Z,Z,aq⟩ ?_;clear aq;intro X t U ar hI;obtain⟨i,m,hj,hm,C,E,aq⟩:=hI;subst hLL1;obtain⟨oo,rfl⟩:=ar.q2 C E Z;refine P7 aq 6 [3,0] Z Z<|O Z (RG hk Z Z Z (e:=82) Z) Z<|QC 3 Z<|aD Z (fun F=>?_) (fun F=>?_)
 ·refine Pt 4 Z<|Q6 aq 5 [3,0] Z Z ?_;obtain⟨M,u,aa⟩:=cE F;have hz16:=my (f:=db k) u;have hy16:=FI (f:=db k) (l:=kids) (i:=i+1);rw[tS u] at hy16;refine Rx (e:=82) (m:=4) hk u Z Z Z Z (fun am ab A ac z=>?_);obtain⟨ao,ap,aK,a0,rfl,ae⟩:=z.shape;refine O Z (RJ aq A Z Z) Z<|bj Z (RC Z Z Z) (fun _=>Z) (ih _ _ z B _ _ aq) (fun U aq=>?_);refine Q2 3 Z<|aI<|Q0 5 Z<|aM ⟨X-1,by omega,oF,i+1,m+db k M,by omega,by rw[tS u];omega,cI<|Hg B,cI<|bg (by have:=hk.bG;omega),aq⟩
 refine PY 3 Z<|aU<|Q1 7 Z ?_;exact aB Z Z ⟨cJ<|congrArg Int.ofNat (by show m=(kids.map<|db k).sum+1;rw[hm,tL_<|br F]),aq.pop⟩
theorem NV {G:Cx} (R:Plain G) {K:H}:∀(k:Nat) (x:XE) (vs:List V),eE K k x vs->db k x<=1000000->∀(U:I) (L:Own),J U K L->bm Tryz.prog G 228 [.agg vs] U fun v U'=>v= .int .i64 (.ofNat<|fZ k x)/\J U' K L:=by
 intro k;induction k with
 | zero=>intro x vs h;cases x;exact h.elim
 | succ k ih=>
 intro x vs W Q U L aq;obtain⟨op,num,name,kids⟩:=x;obtain⟨v,rfl,hk⟩:=W;have Q:(kids.map<|db k).sum+1<=1000000:=Q;refine QX R Tryz.func228 Z<|QA 2 Z<|kp aq Z (cA Z Z) (fun U b1 aq=>?_);refine Pv 15 Z ?_;obtain⟨LL1,aq,hLL1⟩:=aq.named;refine bp (rg 3 17) (fun j t U=>∃(i m:Nat),j+i=kids.length/\m=np ((kids.take i).map<|fZ k)/\t.get 3=some (.int .i64 (.ofNat m))/\t.get 4=some (.int .i64 (.ofNat i))/\J U K LL1) (kids.length) ⟨0,0,Z,Z,Z,Z,aq⟩ ?_;clear aq;intro X t U ar hI;obtain⟨i,m,hj,hm,C,E,aq⟩:=hI;subst hLL1;obtain⟨oo,rfl⟩:=ar.q2 C E Z;refine P7 aq 6 [3,0] Z Z<|O Z (RG hk Z Z Z (e:=82) Z) Z<|QC 3 Z<|aD Z (fun F=>?_) (fun F=>?_)
 ·refine Pt 4 Z<|Q6 aq 5 [3,0] Z Z ?_;obtain⟨M,u,aa⟩:=cE F;have hz16:=my (f:=db k) u;refine Rx (e:=82) (m:=4) hk u Z Z Z Z (fun am ab A ac z=>?_);obtain⟨ao,ap,aK,a0,rfl,ae⟩:=z.shape;refine O Z (RJ aq A Z Z) Z<|bj Z (RC Z Z Z) (fun _=>Z) (ih _ _ z B _ _ aq) (fun U aq=>?_);refine O Z (Hh Z Z Z Z) Z<|Q2 2 Z<|aI<|Q0 5 Z<|aM ⟨X-1,by omega,oF,i+1,max m<|fZ k M,by omega,by rw[JX u,<-hm],cI<|wq _ _,cI<|bg (by have:=hk.bG;omega),aq⟩
 refine PY 3 Z<|aU<|Q1 8 Z ?_;exact aB Z Z ⟨cJ (by show wr .i64 (Int.add (.ofNat m) (.ofNat 1))= .ofNat (np (kids.map<|fZ k)+1);rw[hm,tL_<|br F];exact Hg (by have:=zD (k+1) (.mk op num name kids);have e:fZ (k+1) (.mk op num name kids)=np (kids.map<|fZ k)+1:=rfl;have e2:db (k+1) (.mk op num name kids)=(kids.map<|db k).sum+1:=rfl;omega)),aq.pop⟩
theorem Jf {G:Cx} (hG:Plain G) {K:H}:∀(k:Nat) (x:XE) (vs:List V),eE K k x vs->ja k x->∀(U:I) (L:Own),J U K L->bm Tryz.prog G 229 [.agg vs] U fun v U'=>v= .bool (ed k x)/\J U' K L:=by
 intro k;induction k with
 | zero=>intro x vs h;cases x;exact h.elim
 | succ k ih=>
 intro x vs hE hF U L aq;obtain⟨op,num,name,kids⟩:=x;obtain⟨v,rfl,hk⟩:=hE;refine QX hG Tryz.func229 Z<|QA 2 Z<|kp aq Z (cA Z Z) (fun U b1 aq=>?_);refine P0 4 Z (ak (aS (l:=[(0,[]),(1,[]),(3,[]),(4,[]),(5,[]),(2,[4]),(6,[]),(7,[]),(8,[]),(9,[]),(10,[]),(11,[]),(12,[]),(13,[9]),(14,[]),(15,[]),(16,[]),(17,[]),(18,[]),(19,[]),(20,[]),(21,[]),(22,[]),(23,[]),(24,[]),(25,[]),(26,[]),(27,[]),(28,[]),(29,[]),(30,[]),(31,[]),(32,[]),(33,[]),(34,[]),(35,[]),(36,[]),(37,[]),(38,[]),(39,[]),(40,[])]) Y Y<|Q8 aq 4 [0,0,3,0] Z Z<|al Z Z (RG hk Z Z Z (e:=82) Z) Z<|cy Z Z (RC Z Z Z) (fun _=>Z) (NX hG _ aq) (fun U aq=>?_)));refine⟨(bx (bO Z Z Z Z Z (RE Z aq.g0 Z) hk.dZ) aT),?_⟩;refine wQ 1 Z<|dC Z Z (an Z) (fun _=>Z) (fun A=>?_) (fun A=>?_)
 ·refine Q5 5 Z<|uv Z Z Z ⟨(bx (KJ Z Z) aT),?_⟩;refine P6 37 Z ?_;exact aB Z Z ⟨cB (by show _=(bif dQ op num name kids.length then kids.all (ed k) else false);rw[show dQ op num name kids.length=false from by unfold dQ bd;simp only[A,ct,cf]<;>rfl];rfl),aq.pop⟩
 refine Q8 aq 5 [0,0,2,0] Z Z<|cy Z Z (RC Z Z Z) (fun _=>Z) (NU hG _ hF.1 aq) (fun U aq=>?_);refine⟨(bx (bO Z Z Z Z Z (RE Z aq.g0 Z)<|jm _ _) aT),?_⟩;refine Q5 2 Z<|dC Z Z (an Z) (fun _=>Z) (fun C=>?_) (fun C=>?_)
 ·refine P6 34 Z ?_;exact aB Z Z ⟨cB (by show _=(bif dQ op num name kids.length then kids.all (ed k) else false);rw[show dQ op num name kids.length=false from by unfold dQ bd;simp only[A,C,ct,cf]<;>rfl];rfl),aq.pop⟩
 refine Q8 aq 3 [0,0] Z Z<|dC Z Z (an Z) (fun _=>Z) (fun Q=>?_) (fun Q=>?_)
 ·refine Q8 aq 5 [2,0] Z Z<|dC Z Z (an Z) (fun _=>Z) (fun aa=>?_) (fun aa=>?_)
  ·refine P6 24 Z ?_;exact aB Z Z ⟨cB (by show _=(bif dQ op num name kids.length then kids.all (ed k) else false);rw[show dQ op num name kids.length=false from by unfold dQ bd;simp only[A,C,Q,show(bif gY name [] then false else true)=true from aa,ct,cf]<;>rfl];rfl),aq.pop⟩
  refine Q8 aq 4 [1,0] Z Z<|dC Z Z (an Z) (fun _=>Z) (fun E=>?_) (fun E=>?_)
  ·refine P6 19 Z ?_;exact aB Z Z ⟨cB (by show _=(bif dQ op num name kids.length then kids.all (ed k) else false);rw[show dQ op num name kids.length=false from by unfold dQ bd;simp only[A,C,Q,show(bif gY name [] then false else true)=false from aa,E,ct,cf]<;>rfl];rfl),aq.pop⟩
  refine Q8 aq 3 [0,0] Z Z<|dC Z Z (an Z) (fun _=>Z) (fun R=>?_) (fun R=>?_)
  ·refine Q8 aq 5 [1,0] Z Z<|QF 2 Z<|aD Z (fun X=>?_) (fun X=>?_)
   ·refine QB 7 Z ?_;exact aB Z Z ⟨cB (by show _=(bif dQ op num name kids.length then kids.all (ed k) else false);rw[show dQ op num name kids.length=false from by unfold dQ bd;simp only[A,C,Q,show(bif gY name [] then false else true)=false from aa,E,R,X,ct,cf]<;>rfl];rfl),aq.pop⟩
   refine Pt 9 Z ?_;obtain⟨LL1,aq,hLL1⟩:=aq.named;refine bp ([2,3]++rg 45 14) (fun j t U=>∃(i:Nat),j+i=kids.length/\(kids.take i).all (ed k)=true/\t.get 3=some (.int .i64 (.ofNat i))/\J U K LL1) (kids.length) ⟨0,Z,Z,Z,aq⟩ ?_;clear aq;intro j4 t U ar hI;obtain⟨i,hj,ha,ab,aq⟩:=hI;subst hLL1;obtain⟨oo,rfl⟩:=ar.q1 ab Z;refine P7 aq 6 [3,0] Z Z<|O Z (RG hk Z Z Z (e:=82) Z) Z<|QC 3 Z<|aD Z (fun F=>?_) (fun F=>?_)
   ·refine OU aq 9 [3,0] Z Z ?_;obtain⟨ap,u,ac⟩:=cE F;refine Rx (e:=82) (m:=4) hk u Z Z Z Z (fun aK ae W am z=>?_);obtain⟨a0,a1,a2,a3,rfl,ao⟩:=z.shape;refine O Z (RJ aq W Z Z) Z<|bj Z (RC Z Z Z) (fun _=>Z) (ih _ _ z (hF.2 _<|gB_ u) _ _ aq) (fun U aq=>?_);refine O Z (cT Z) Z<|QC 2 Z<|aD Z (fun M=>?_) (fun M=>?_)
    ·refine Q1 6 Z<|aE<|av<|bq<|aE<|av (?_);exact aB Z Z ⟨cB (by show _=(bif dQ op num name kids.length then kids.all (ed k) else false);rw[show dQ op num name kids.length=true from by unfold dQ bd;simp only[A,C,Q,show(bif gY name [] then false else true)=false from aa,E,R,X,ct,cf]<;>rfl];rw[gQ u<|bN M];rfl),aq.pop⟩
    refine aG<|aI<|Q0 5 Z<|aM ⟨j4-1,by omega,oF,i+1,by omega,fc ha u<|bn M,cI<|bg (by have:=hk.bG;omega),aq⟩
   refine PY 3 Z<|aU<|Q1 6 Z ?_;exact aB Z Z ⟨cB (by show _=(bif dQ op num name kids.length then kids.all (ed k) else false);rw[show dQ op num name kids.length=true from by unfold dQ bd;simp only[A,C,Q,show(bif gY name [] then false else true)=false from aa,E,R,X,ct,cf]<;>rfl];rw[dT ha<|br F];rfl),aq.pop⟩
  refine QF 8 Z<|Pt 9 Z ?_;obtain⟨LL2,aq,hLL2⟩:=aq.named;refine bp ([2,3]++rg 45 14) (fun j t U=>∃(i:Nat),j+i=kids.length/\(kids.take i).all (ed k)=true/\t.get 3=some (.int .i64 (.ofNat i))/\J U K LL2) (kids.length) ⟨0,Z,Z,Z,aq⟩ ?_;clear aq;intro j4 t U ar hI;obtain⟨i,hj,ha,ab,aq⟩:=hI;subst hLL2;obtain⟨oo,rfl⟩:=ar.q1 ab Z;refine P7 aq 6 [3,0] Z Z<|O Z (RG hk Z Z Z (e:=82) Z) Z<|QC 3 Z<|aD Z (fun F=>?_) (fun F=>?_)
  ·refine OU aq 9 [3,0] Z Z ?_;obtain⟨ap,u,ac⟩:=cE F;refine Rx (e:=82) (m:=4) hk u Z Z Z Z (fun aK ae W am z=>?_);obtain⟨a0,a1,a2,a3,rfl,ao⟩:=z.shape;refine O Z (RJ aq W Z Z) Z<|bj Z (RC Z Z Z) (fun _=>Z) (ih _ _ z (hF.2 _<|gB_ u) _ _ aq) (fun U aq=>?_);refine O Z (cT Z) Z<|QC 2 Z<|aD Z (fun M=>?_) (fun M=>?_)
   ·refine Q1 6 Z<|aE<|av<|bq<|aE<|av (?_);exact aB Z Z ⟨cB (by show _=(bif dQ op num name kids.length then kids.all (ed k) else false);rw[show dQ op num name kids.length=true from by unfold dQ bd;simp only[A,C,Q,show(bif gY name [] then false else true)=false from aa,E,R,ct,cf]<;>rfl];rw[gQ u<|bN M];rfl),aq.pop⟩
   refine aG<|aI<|Q0 5 Z<|aM ⟨j4-1,by omega,oF,i+1,by omega,fc ha u<|bn M,cI<|bg (by have:=hk.bG;omega),aq⟩
  refine PY 3 Z<|aU<|Q1 6 Z ?_;exact aB Z Z ⟨cB (by show _=(bif dQ op num name kids.length then kids.all (ed k) else false);rw[show dQ op num name kids.length=true from by unfold dQ bd;simp only[A,C,Q,show(bif gY name [] then false else true)=false from aa,E,R,ct,cf]<;>rfl];rw[dT ha<|br F];rfl),aq.pop⟩
 refine Q8 aq 10 [1,0] Z Z<|dC Z Z (an Z) (fun _=>Z) (fun E=>?_) (fun E=>?_)
 ·refine P6 19 Z ?_;exact aB Z Z ⟨cB (by show _=(bif dQ op num name kids.length then kids.all (ed k) else false);rw[show dQ op num name kids.length=false from by unfold dQ bd;simp only[A,C,Q,E,ct,cf]<;>rfl];rfl),aq.pop⟩
 refine Q8 aq 3 [0,0] Z Z<|dC Z Z (an Z) (fun _=>Z) (fun R=>?_) (fun R=>?_)
 ·refine Q8 aq 5 [1,0] Z Z<|QF 2 Z<|aD Z (fun X=>?_) (fun X=>?_)
  ·refine QB 7 Z ?_;exact aB Z Z ⟨cB (by show _=(bif dQ op num name kids.length then kids.all (ed k) else false);rw[show dQ op num name kids.length=false from by unfold dQ bd;simp only[A,C,Q,E,R,X,ct,cf]<;>rfl];rfl),aq.pop⟩
  refine Pt 9 Z ?_;obtain⟨LL3,aq,hLL3⟩:=aq.named;refine bp ([2,3]++rg 45 14) (fun j t U=>∃(i:Nat),j+i=kids.length/\(kids.take i).all (ed k)=true/\t.get 3=some (.int .i64 (.ofNat i))/\J U K LL3) (kids.length) ⟨0,Z,Z,Z,aq⟩ ?_;clear aq;intro j4 t U ar hI;obtain⟨i,hj,ha,ab,aq⟩:=hI;subst hLL3;obtain⟨oo,rfl⟩:=ar.q1 ab Z;refine P7 aq 6 [3,0] Z Z<|O Z (RG hk Z Z Z (e:=82) Z) Z<|QC 3 Z<|aD Z (fun F=>?_) (fun F=>?_)
  ·refine OU aq 9 [3,0] Z Z ?_;obtain⟨ap,u,ac⟩:=cE F;refine Rx (e:=82) (m:=4) hk u Z Z Z Z (fun aK ae W am z=>?_);obtain⟨a0,a1,a2,a3,rfl,ao⟩:=z.shape;refine O Z (RJ aq W Z Z) Z<|bj Z (RC Z Z Z) (fun _=>Z) (ih _ _ z (hF.2 _<|gB_ u) _ _ aq) (fun U aq=>?_);refine O Z (cT Z) Z<|QC 2 Z<|aD Z (fun M=>?_) (fun M=>?_)
   ·refine Q1 6 Z<|aE<|av<|bq<|aE<|av (?_);exact aB Z Z ⟨cB (by show _=(bif dQ op num name kids.length then kids.all (ed k) else false);rw[show dQ op num name kids.length=true from by unfold dQ bd;simp only[A,C,Q,E,R,X,ct,cf]<;>rfl];rw[gQ u<|bN M];rfl),aq.pop⟩
   refine aG<|aI<|Q0 5 Z<|aM ⟨j4-1,by omega,oF,i+1,by omega,fc ha u<|bn M,cI<|bg (by have:=hk.bG;omega),aq⟩
  refine PY 3 Z<|aU<|Q1 6 Z ?_;exact aB Z Z ⟨cB (by show _=(bif dQ op num name kids.length then kids.all (ed k) else false);rw[show dQ op num name kids.length=true from by unfold dQ bd;simp only[A,C,Q,E,R,X,ct,cf]<;>rfl];rw[dT ha<|br F];rfl),aq.pop⟩
 refine QF 8 Z<|Pt 9 Z ?_;obtain⟨LL4,aq,hLL4⟩:=aq.named;refine bp ([2,3]++rg 45 14) (fun j t U=>∃(i:Nat),j+i=kids.length/\(kids.take i).all (ed k)=true/\t.get 3=some (.int .i64 (.ofNat i))/\J U K LL4) (kids.length) ⟨0,Z,Z,Z,aq⟩ ?_;clear aq;intro j4 t U ar hI;obtain⟨i,hj,ha,ab,aq⟩:=hI;subst hLL4;obtain⟨oo,rfl⟩:=ar.q1 ab Z;refine P7 aq 6 [3,0] Z Z<|O Z (RG hk Z Z Z (e:=82) Z) Z<|QC 3 Z<|aD Z (fun F=>?_) (fun F=>?_)
 ·refine OU aq 9 [3,0] Z Z ?_;obtain⟨ap,u,ac⟩:=cE F;refine Rx (e:=82) (m:=4) hk u Z Z Z Z (fun aK ae W am z=>?_);obtain⟨a0,a1,a2,a3,rfl,ao⟩:=z.shape;refine O Z (RJ aq W Z Z) Z<|bj Z (RC Z Z Z) (fun _=>Z) (ih _ _ z (hF.2 _<|gB_ u) _ _ aq) (fun U aq=>?_);refine O Z (cT Z) Z<|QC 2 Z<|aD Z (fun M=>?_) (fun M=>?_)
  ·refine Q1 6 Z<|aE<|av<|bq<|aE<|av (?_);exact aB Z Z ⟨cB (by show _=(bif dQ op num name kids.length then kids.all (ed k) else false);rw[show dQ op num name kids.length=true from by unfold dQ bd;simp only[A,C,Q,E,R,ct,cf]<;>rfl];rw[gQ u<|bN M];rfl),aq.pop⟩
  refine aG<|aI<|Q0 5 Z<|aM ⟨j4-1,by omega,oF,i+1,by omega,fc ha u<|bn M,cI<|bg (by have:=hk.bG;omega),aq⟩
 refine PY 3 Z<|aU<|Q1 6 Z ?_;exact aB Z Z ⟨cB (by show _=(bif dQ op num name kids.length then kids.all (ed k) else false);rw[show dQ op num name kids.length=true from by unfold dQ bd;simp only[A,C,Q,E,R,ct,cf]<;>rfl];rw[dT ha<|br F];rfl),aq.pop⟩
theorem vr {G:Cx} (C:Plain G) {K:H} {k:Nat} {x:XE} {vs:List V} (E:eE K k x vs) (M:ja k x) (F:db k x<=1000000) {U:I} {L:Own} (aq:J U K L):bm Tryz.prog G 169 [.agg vs] U fun v U'=>v= .int .i64 (pg k x)/\J U' K L:=by
 obtain⟨o0,n0,s0,v0,rfl,hk⟩:=E.shape;have l1:∀{a b:Nat},bR (.ofNat b) (.ofNat a)=Nat.blt b a:=fun {a b}=>by rw[Bool.eq_iff_iff,Ln,Nat.blt_eq];exact Int.ofNat_lt
 refine QX C Tryz.func169 Z<|QA 2 Z<|kp aq Z (cA Z Z) (fun U b1 aq=>?_);refine Pw 6 Z<|O Z (RF Z aq.g0 (n:=4) (vs:=[_,_,_,_]) Z) Z<|bj Z (RC Z Z Z) (fun _=>Z) (NZ C _ _ _ E F _ _ aq) (fun U aq=>?_);refine vQ 1 Z<|ky Z (an Z) (fun A=>?_) (fun A=>?_)
 ·refine P3 14 Z ?_;exact aB Z Z ⟨cJ (by unfold pg g9;rw[<-l1 (a:=db k x),show bR (.ofNat 2000) (.ofNat<|db k x)=true from A]<;>rfl),aq.pop⟩
 refine O Z (RF Z aq.g0 (n:=4) (vs:=[_,_,_,_]) Z) Z<|bj Z (RC Z Z Z) (fun _=>Z) (NV C _ _ _ E F _ _ aq) (fun U aq=>?_);refine QC 4 Z<|aD Z (fun u=>?_) (fun u=>?_)
 ·refine QB 7 Z ?_;exact aB Z Z ⟨cJ (by unfold pg g9;rw[<-l1 (a:=db k x),<-l1 (a:=fZ k x),show bR (.ofNat 2000) (.ofNat<|db k x)=false from A,show bR (.ofNat 32) (.ofNat<|fZ k x)=true from u]<;>rfl),aq.pop⟩
 refine Pu 5 Z<|O Z (RF Z aq.g0 (n:=4) (vs:=[_,_,_,_]) Z) Z<|bj Z (RC Z Z Z) (fun _=>Z) (Jf C _ _ _ E M _ _ aq) (fun U aq=>?_);refine O Z (cT Z) Z<|QC 2 Z<|aD Z (fun z=>?_) (fun z=>?_)
 ·refine QB 7 Z ?_;exact aB Z Z ⟨cJ (by unfold pg g9;rw[<-l1 (a:=db k x),<-l1 (a:=fZ k x),show bR (.ofNat 2000) (.ofNat<|db k x)=false from A,show bR (.ofNat 32) (.ofNat<|fZ k x)=false from u,show ed k x=false from bN z]<;>rfl),aq.pop⟩
 refine QB 8 Z ?_;exact aB Z Z ⟨cJ (by unfold pg g9;rw[<-l1 (a:=db k x),<-l1 (a:=fZ k x),show bR (.ofNat 2000) (.ofNat<|db k x)=false from A,show bR (.ofNat 32) (.ofNat<|fZ k x)=false from u,show ed k x=true from bn z]<;>rfl),aq.pop⟩
theorem Gg {c m:Nat} (h:48<=c/\c<=57) (hm:m<=100000):wr .i64 (Int.add (wr .i64<|Int.mul (.ofNat m) (.ofNat 10))<|wr .i64<|wr .u8<|Int.sub (.ofNat c) (.ofNat 48))= .ofNat (10*m+(c-48)):=Jk h hm
theorem Ja {G:Cx} (hG:Plain G) {K:H} (s:List Nat) {U:I} {L:Own} (aq:J U K L):bm Tryz.prog G 235 [.str s] U fun v U'=>v= .int .i64 (j0 s)/\J U' K L:=by
 refine QX hG Tryz.func235 Z<|PV 10 Z<|ky Z (an Z) (fun h7=>?_) (fun h7=>?_)
 ·refine P3 24 Z ?_;exact aB Z Z ⟨cJ (by unfold j0;rw[rK (.inl (by rw[show s= [] from xj h7];rfl))]),aq⟩
 refine vQ 1 Z<|O Z (iv Z Z Z Y Z) Z<|Q3 2 Z<|ky Z (an Z) (fun M=>?_) (fun M=>?_)
 ·refine P3 19 Z ?_;exact aB Z Z ⟨cJ (by unfold j0;rw[rK (.inr (.inl (by rw[<-bP];exact bk (a:=4) M)))]),aq⟩
 refine vQ 1 Z<|O Z (iv Z Z Z Y Z) Z<|vQ 1 Z<|ky Z (an Z) (fun Q=>?_) (fun Q=>?_)
 ·refine vQ 1 Z ?_;obtain⟨ac,F⟩:=cq (show 0<s.length from by have:=bk (a:=1) Q;rw[bP] at this;omega);refine O Z (fI Y Z Z F) Z<|QC 5 Z<|aD Z (fun R=>?_) (fun R=>?_)
  ·refine QB 7 Z ?_;exact aB Z Z ⟨cJ (by unfold j0;rw[rK (.inr (.inr ⟨by rw[<-bP];exact bk (a:=1) Q,by rw[F];exact congrArg some<|iJ_<|eqv R⟩))]),aq⟩
  refine PX 4 Z ?_;have hl4:cY s<=4:=br (a:=4) M
  have E:¬(s.length=0∨4<s.length∨(1<s.length/\s[0]?=some 48)):=by
   have hl4:=hl4;rw[bP] at hl4;have h9z:s.length≠0:=fun e=>by rw[eN_ e] at h7;cases h7
   rintro (e | e | ⟨_,e⟩)
   ·exact h9z e
   ·omega
   rw[F] at e;cases e;cases R
  refine Pv 10 Z ?_;obtain⟨LL1,aq,hLL1⟩:=aq.named;refine bp ([2,3,4]++rg 22 24) (fun j t U=>∃(i m:Nat),j+i=cY s/\nR s 0=nR (s.drop i) m/\m<10 ^ i/\i<=4/\t.get 3=some (.int .i64 (.ofNat m))/\t.get 4=some (.int .i64 (.ofNat i))/\J U K LL1) (cY s) ⟨0,0,Z,Z,Nat.one_pos,Nat.zero_le _,Z,Z,aq⟩ ?_;clear aq;intro j5 t U ar hI;obtain⟨i,m,hj,he,hm,W,X,aa,aq⟩:=hI;subst hLL1;obtain⟨oo,rfl⟩:=ar.q2 X aa Z;refine PV 5 Z<|O Z (iv Z Z Z Y Z) Z<|QC 3 Z<|aD Z (fun z=>?_) (fun z=>?_)
  ·refine OR 5 Z<|QA 4 Z ?_;obtain⟨ab,u⟩:=cq (show i<s.length from by have:=bk z;rwa[bP] at this);refine O Z (fI Y Z Z u) Z<|vQ 1 Z<|ky Z (an Z) (fun A=>?_) (fun A=>?_)
   ·refine QE 14 Z<|av<|aE<|av<|bq<|aE<|av (?_);exact aB Z Z ⟨cJ (by unfold j0;rw[iq E,he,mg u<|Br A]),aq⟩
   refine Q3 2 Z<|O Z (fI Y Z Z u) Z<|QC 4 Z<|aD Z (fun C=>?_) (fun C=>?_)
   ·refine Q1 6 Z<|av<|aE<|av<|bq<|aE<|av (?_);exact aB Z Z ⟨cJ (by unfold j0;rw[iq E,he,mg u<|Bq C]),aq⟩
   refine aG<|ad<|ai Z<|Q3 4 Z<|O Z (fI Y Z Z u) Z<|vQ 1 Z ?_;refine O Z (ew (j:=.u8) (k:=.i64) Y Y Y Z) Z ?_;refine Q2 3 Z (aI (Q0 5 Z (aM ⟨j5-1,by have:=bk z;omega,oF,i+1,10*m+(ab-48),by have:=bk z;omega,he.trans<|qo u<|jB A C,by have:=jB A C;rw[Nat.pow_succ];omega,by have:=bk z;have:=hl4;omega,cI<|Gg (jB A C) (by have:=yb i W;omega),cI<|bg B,aq⟩)))
  refine PY 3 Z<|aU<|Q1 7 Z ?_;exact aB Z Z ⟨cJ (by unfold j0;rw[iq E,he,qn (by have:=br z;rwa[bP] at this)]),aq⟩
 refine Px 12 Z ?_;have hl4:cY s<=4:=br (a:=4) M
 have E:¬(s.length=0∨4<s.length∨(1<s.length/\s[0]?=some 48)):=by
  have hl4:=hl4;rw[bP] at hl4;have h9z:s.length≠0:=fun e=>by rw[eN_ e] at h7;cases h7
  have h18z:¬(1<s.length):=by have:=br (a:=1) Q;rw[bP] at this;omega
  omega
 refine Pv 10 Z ?_;obtain⟨LL2,aq,hLL2⟩:=aq.named;refine bp ([2,3,4]++rg 22 24) (fun j t U=>∃(i m:Nat),j+i=cY s/\nR s 0=nR (s.drop i) m/\m<10 ^ i/\i<=4/\t.get 3=some (.int .i64 (.ofNat m))/\t.get 4=some (.int .i64 (.ofNat i))/\J U K LL2) (cY s) ⟨0,0,Z,Z,Nat.one_pos,Nat.zero_le _,Z,Z,aq⟩ ?_;clear aq;intro j5 t U ar hI;obtain⟨i,m,hj,he,hm,W,X,aa,aq⟩:=hI;subst hLL2;obtain⟨oo,rfl⟩:=ar.q2 X aa Z;refine PV 5 Z<|O Z (iv Z Z Z Y Z) Z<|QC 3 Z<|aD Z (fun z=>?_) (fun z=>?_)
 ·refine OR 5 Z<|QA 4 Z ?_;obtain⟨ab,u⟩:=cq (show i<s.length from by have:=bk z;rwa[bP] at this);refine O Z (fI Y Z Z u) Z<|vQ 1 Z<|ky Z (an Z) (fun A=>?_) (fun A=>?_)
  ·refine QE 14 Z<|av<|aE<|av<|bq<|aE<|av (?_);exact aB Z Z ⟨cJ (by unfold j0;rw[iq E,he,mg u<|Br A]),aq⟩
  refine Q3 2 Z<|O Z (fI Y Z Z u) Z<|QC 4 Z<|aD Z (fun C=>?_) (fun C=>?_)
  ·refine Q1 6 Z<|av<|aE<|av<|bq<|aE<|av (?_);exact aB Z Z ⟨cJ (by unfold j0;rw[iq E,he,mg u<|Bq C]),aq⟩
  refine aG<|ad<|ai Z<|Q3 4 Z<|O Z (fI Y Z Z u) Z<|vQ 1 Z ?_;refine O Z (ew (j:=.u8) (k:=.i64) Y Y Y Z) Z ?_;refine Q2 3 Z (aI (Q0 5 Z (aM ⟨j5-1,by have:=bk z;omega,oF,i+1,10*m+(ab-48),by have:=bk z;omega,he.trans<|qo u<|jB A C,by have:=jB A C;rw[Nat.pow_succ];omega,by have:=bk z;have:=hl4;omega,cI<|Gg (jB A C) (by have:=yb i W;omega),cI<|bg B,aq⟩)))
 refine PY 3 Z<|aU<|Q1 7 Z ?_;exact aB Z Z ⟨cJ (by unfold j0;rw[iq E,he,qn (by have:=br z;rwa[bP] at this)]),aq⟩
end Go.Ev
namespace Go.Ev
variable [Env]
section
variable {P:Program} {G:Cx} {U:I} {K:H} {L:Own}
theorem IE {α:Type} {m e:Nat} {R:α->List V->Prop} {C:V} {ts:Array TypeId} {t:TypeId} (F:J U K L) (hx:bJ K m R [] C) (u:∀x vs,R x vs->cF vs=true)
  (M:ts[0]?=some t) (hu:P.underlying t=some (.slice e)) (A:qh P e m=true) (W:dp P ts[1]?=true):gh P U ts .au C= .val .au U:=by
 obtain⟨news,X,s2,s3,s4⟩:=oL F hx u;unfold qh at A;split at A
 ·rename_i j hj;simp only[bA_] at A;obtain⟨a1,a2,a3,a4⟩:=A;have hm:j.size=m:=nB a1;subst hm;have E:((P.info? e).any fun j=>(j.zero.bind qF).any fun z=>(cW z).any fun cs=>Nat.beq (cY cs) j.size)=true:=by rw[hj];exact a4
  unfold gh;rw[M];dsimp only;rw[hu];dsimp only;rw[hj] at E⊢;dsimp only;rw[W,a2,a3];simp only[Bool.and_self,cond_true];rw[X];dsimp only;rw[s3,show Nat.ble ([]:List α).length 1048576=true from Z,E]
  simp_all
 cases A
theorem uK {α:Type} {m e:Nat} {R:α->List V->Prop} {l l2:List α} {u X:V} {M:Own} {ts:Array TypeId} {t:TypeId} (ho:cN m e R l u M) (aq:J U K (M++L))
  (hx:bJ K m R l2 X) (z:∀x vs,R x vs->cF vs=true) (hn:l.length+l2.length<=1000000)
  (A:ts[0]?=some t) (hu:P.underlying t=some (.slice e)) (C:qh P e m=true) (E:dp P ts[1]?=true):
  ∃U' u' M',gh P U ts u X= .val u' U'/\cN m e R (l++l2) u' M'/\J U' K (M'++L):=by
 rcases ho with ⟨rfl,rfl,rfl⟩ | ⟨b,c,cells,e',rfl,rfl,h3,h4,h5,h6⟩
 ·cases l2 with
  | nil=>exact⟨U,_,[],IE aq hx z A hu C E,.inl ⟨Z,Z,Z⟩,aq⟩
  | cons a l2=>
   obtain⟨news,F,k2,W⟩:=rR (P:=P) aq hx z (by simp at hn⊢;omega) (by simp) A hu C E;exact⟨_,_,[(U.next,.row news e false)],F,.inr ⟨_,_,news,e,Z,Z,k2,W,.inr ⟨Z,Z⟩,by simp at hn⊢;omega⟩,aq.alloc (.row news e false)⟩
 obtain⟨U',b',c',news,e2,F,k2,W,k4,k5⟩:=yP (P:=P) aq hx z B h3 B h5 A hu C E;exact⟨U',_,[(b',.row (cells++news) e2 false)],F,qJ h3 h4 W k4 Z k5 B,k2⟩
theorem z9 {α:Type} {m e:Nat} {R:α->List V->Prop} {l l2:List α} {u A:V} {M:Own} {bv ev:Nat} {cv:List V} {ts:Array TypeId} {t:TypeId} (C:cN m e R l u M) (aq:J U K ((bv,.row cv ev false)::(M++L)))
  (hx:bJ (K.add bv (.row cv ev false)) m R l2 A) (z:∀x vs,R x vs->cF vs=true) (E:l.length+l2.length<=1000000)
  (F:ts[0]?=some t) (hu:P.underlying t=some (.slice e)) (W:qh P e m=true) (X:dp P ts[1]?=true):
  ∃U' u' M',gh P U ts u A= .val u' U'/\cN m e R (l++l2) u' M'/\J U' K (M'++L):=by
 obtain⟨U',u',M',h1,h3,h4⟩:=uK C aq.iC hx z E F hu W X;exact⟨U',u',M',h1,h3,h4.weaken<|H.sO _ _ _⟩
theorem AY {α:Type} {m b e:Nat} {ro:Bool} {R:α->List V->Prop} {x:α} {vs:List V} (hm:vs.length=m) (hR:R x vs) (hk:K b (.row vs e ro)):bJ K m R [x] (.slice b 0 1 (.known 1)):=by
 refine .inr ⟨b,0,.known 1,vs,e,ro,Z,.inr ⟨1,Z,nR_ _⟩,hk,by simp[hm],by simp,fun i y hy=>?_⟩;cases i with
 | zero=>
  grind
 | succ i=>simp at hy
theorem eJ {α:Type} {m b e:Nat} {R:α->List V->Prop} {x:α} {vs:List V} (hm:vs.length=m) (u:R x vs):bJ (K.add b (.row vs e false)) m R [x] (.slice b 0 1 (.known 1)):=AY hm u (.inr ⟨Z,Z⟩)
theorem BB {α:Type} {m e k:Nat} {kk:IntKind} {R:α->List V->Prop} {la:List α} {v:V} {ty:TypeId} {ev:Operand->Option V} {xo lo:Operand} (h:bJ K m R la v) (hk:k<=la.length) (hu:P.underlying ty=some (.slice e)) (hj:(P.info? e).map (·.size)=some m) (hx:ev xo=some v) (E:ev lo=some (.int kk (.ofNat k))):
  ∃w,fD P ev ty xo (some lo) none none=some w/\bJ K m R (la.drop k) w:=by
 cases hq:P.info? e with
 | none=>simp_all
 | some j=>
 rw[hq] at hj;have hj:j.size=m:=by simpa using hj
 subst hj;have hlen:(la.drop k).length=la.length-k:=lD_ ..
 have hb:∀y,k<=y->fl ev lo y=some k:=fun y hy=>by
  unfold fl;rw[E]
  grind [nE_]
 rcases h with ⟨rfl,rfl⟩ | ⟨b,off,c,cells,e',ro,rfl,F,z,h4,h5,h6⟩
 ·obtain rfl:k=0:=by simpa using hk
  refine⟨.au,?_,.inl ⟨Z,Z⟩⟩;unfold fD;rw[hu,hx];dsimp only;unfold dc
  simp_all
 have hle:k*j.size<=la.length*j.size:=nM_ _ hk;have aa:(la.length-k)*j.size=la.length*j.size-k*j.size:=Nat.sub_mul ..
 have C:∀(i:Nat) (x:α),(la.drop k)[i]?=some x->R x ((cells.drop (off+k*j.size+i*j.size)).take j.size):=fun i x u=>by
  grind
 rcases F with rfl | ⟨cp,rfl,ab⟩
 ·refine⟨.slice b (off+k*j.size) (la.length-k) (.upto j.size),?_,.inr ⟨b,_,_,cells,e',ro,by rw[hlen],.inl Z,z,by rw[hlen];omega,by rw[hlen];omega,C⟩⟩
  grind [fD,dc,Nat.beq_refl]
 refine⟨.slice b (bif Nat.beq cp k then off else off+k*j.size) (la.length-k) (.known (cp-k)),?_,?_⟩
 ·unfold fD;rw[hu,hx];dsimp only;unfold cutAt dc
  grind [cut]
 cases A:Nat.beq cp k with
 | false=>exact .inr ⟨b,_,_,cells,e',ro,by rw[hlen];rfl,.inr ⟨cp-k,Z,by rw[hlen];omega⟩,z,by rw[hlen];omega,by rw[hlen];omega,C⟩
 | true=>
  have e1:=nB A;have M:la.drop k= []:=List.drop_eq_nil_of_le B;rw[M];exact .inr ⟨b,off,_,cells,e',ro,by grind,.inr ⟨cp-k,Z,by simp⟩,z,by simp;omega,by simp,fun i x u=>by simp at u⟩
end
section
variable {P:Program} {G:Cx} {n:Nat} {t:PT V} {U:I} {K:H} {L:Own} {Q:Ex->PT V->I->Prop} {ops:Array Oper} {o:Oper} {l:List Oper} {lp:List (Nat×List Nat)} {ix:Nat} {rc:List Nat}
theorem qL {α:Type} {m e k:Nat} {kk:IntKind} {R:α->List V->Prop} {la:List α} {v:V} {ty:TypeId} {xo lo:Operand} {t':V->PT V} (h:bJ K m R la v) (hk:k<=la.length) (u:ops[ix]?=some o) (hw:bS ops t o=some true) (z:o.op= .slice ty xo (some lo) none none)
  (hu:P.underlying ty=some (.slice e)) (hj:(P.info? e).map (·.size)=some m) (hx:bI G t xo=some v) (A:bI G t lo=some (.int kk (.ofNat k))) (hp:∀v,dG t n o.dst v=some (t' v))
  (hc:∀w,bJ K m R (la.drop k) w->cG P G ops n lp (t' w) U Q):cG P G ops n ((ix,[])::lp) t U Q:=by
 obtain⟨w,h1,C⟩:=BB (P:=P) h hk hu hj hx A;refine al u hw ?_ (hp w)<|hc w C;rw[z];exact bf Z h1
theorem uL {α:Type} {m e k:Nat} {kk:IntKind} {R:α->List V->Prop} {la:List α} {v:V} {ty:TypeId} {xo hi:Operand} {t':V->PT V} (h:bJ K m R la v) (hk:k<=la.length) (u:ops[ix]?=some o) (hw:bS ops t o=some true) (z:o.op= .slice ty xo none (some hi) none)
  (hu:P.underlying ty=some (.slice e)) (hj:(P.info? e).map (·.size)=some m) (hx:bI G t xo=some v) (A:bI G t hi=some (.int kk (.ofNat k))) (hp:∀v,dG t n o.dst v=some (t' v))
  (hc:∀w,bJ K m R (la.take k) w->cG P G ops n lp (t' w) U Q):cG P G ops n ((ix,[])::lp) t U Q:=by
 obtain⟨w,h1,C⟩:=yy (P:=P) h hk hu hj hx A;refine al u hw ?_ (hp w)<|hc w C;rw[z];exact bf Z h1
theorem uH {α:Type} {m e:Nat} {R:α->List V->Prop} {la l2:List α} {u W:V} {M:Own} {ty:TypeId} {cl:Call} {so xo:Operand} {t':V->PT V} (hr:cN m e R la u M) (hs:J U K (M++L)) (hx:bJ K m R l2 W) (z:∀x vs,R x vs->cF vs=true) (hn:la.length+l2.length<=1000000)
  (hw:bS ops t o=some true) (ho:o.op= .call cl) (C:cl.callee= .builtin .append) (A:cl.args.toList= [so,xo]) (ht:cl.argTypes[0]?=some ty) (E:bI G t so=some u) (F:bI G t xo=some W) (hp:∀v,dG t n o.dst v=some (t' v))
  (h:∀(U':I) (u':V) (M':Own),cN m e R (la++l2) u' M'->J U' K (M'++L)->bV P G ops n l (t' u') U' Q) (hu:P.underlying ty=some (.slice e):=by kernel_rfl) (ha:qh P e m=true:=by kernel_rfl) (X:dp P cl.argTypes[1]?=true:=by kernel_rfl):bV P G ops n (o::l) t U Q:=by
 obtain⟨U',u',M',k1,k2,k3⟩:=uK (P:=P) hr hs hx z hn ht hu ha X;refine O hw ?_ (hp _)<|h U' u' M' k2 k3;rw[ho];exact dB C A E F X k1
theorem sT {α:Type} {m e:Nat} {R:α->List V->Prop} {la l2:List α} {u W:V} {M:Own} {bv ev:Nat} {cv:List V} {ty:TypeId} {cl:Call} {so xo:Operand} {t':V->PT V} (hr:cN m e R la u M) (hs:J U K ((bv,.row cv ev false)::(M++L))) (hx:bJ (K.add bv (.row cv ev false)) m R l2 W) (z:∀x vs,R x vs->cF vs=true) (hn:la.length+l2.length<=1000000)
  (hw:bS ops t o=some true) (ho:o.op= .call cl) (C:cl.callee= .builtin .append) (A:cl.args.toList= [so,xo]) (ht:cl.argTypes[0]?=some ty) (E:bI G t so=some u) (F:bI G t xo=some W) (hp:∀v,dG t n o.dst v=some (t' v))
  (h:∀(U':I) (u':V) (M':Own),cN m e R (la++l2) u' M'->J U' K (M'++L)->bV P G ops n l (t' u') U' Q) (hu:P.underlying ty=some (.slice e):=by kernel_rfl) (ha:qh P e m=true:=by kernel_rfl) (X:dp P cl.argTypes[1]?=true:=by kernel_rfl):bV P G ops n (o::l) t U Q:=by
 obtain⟨U',u',M',k1,k2,k3⟩:=z9 (P:=P) hr hs hx z hn ht hu ha X;refine O hw ?_ (hp _)<|h U' u' M' k2 k3;rw[ho];exact dB C A E F X k1
theorem jH {α:Type} {m e:Nat} {R:α->List V->Prop} {la l2:List α} {u X:V} {M:Own} {ty:TypeId} {cl:Call} {so xo:Operand} {t':V->PT V} (hr:cN m e R la u M) (hs:J U K (M++L)) (hx:bJ K m R l2 X) (z:∀x vs,R x vs->cF vs=true) (hn:la.length+l2.length<=1000000)
  (C:ops[ix]?=some o) (hw:bS ops t o=some true) (ho:o.op= .call cl) (E:cl.callee= .builtin .append) (A:cl.args.toList= [so,xo]) (ht:cl.argTypes[0]?=some ty) (F:bI G t so=some u) (W:bI G t xo=some X) (hp:∀v,dG t n o.dst v=some (t' v))
  (h:∀(U':I) (u':V) (M':Own),cN m e R (la++l2) u' M'->J U' K (M'++L)->dk P G ops (t' u') U' rc=true/\cG P G ops n lp (t' u') U' Q) (hu:P.underlying ty=some (.slice e):=by kernel_rfl) (ha:qh P e m=true:=by kernel_rfl) (h2:dp P cl.argTypes[1]?=true:=by kernel_rfl):cG P G ops n ((ix,rc)::lp) t U Q:=by
 obtain⟨U',u',M',k1,k2,k3⟩:=uK (P:=P) hr hs hx z hn ht hu ha h2;refine eX C hw ?_ (hp _)<|h U' u' M' k2 k3;rw[ho];exact dB E A F W h2 k1
theorem k9 {α:Type} {m e:Nat} {R:α->List V->Prop} {la l2:List α} {u X:V} {M:Own} {bv ev:Nat} {cv:List V} {ty:TypeId} {cl:Call} {so xo:Operand} {t':V->PT V} (hr:cN m e R la u M) (hs:J U K ((bv,.row cv ev false)::(M++L))) (hx:bJ (K.add bv (.row cv ev false)) m R l2 X) (z:∀x vs,R x vs->cF vs=true) (hn:la.length+l2.length<=1000000)
  (C:ops[ix]?=some o) (hw:bS ops t o=some true) (ho:o.op= .call cl) (E:cl.callee= .builtin .append) (A:cl.args.toList= [so,xo]) (ht:cl.argTypes[0]?=some ty) (F:bI G t so=some u) (W:bI G t xo=some X) (hp:∀v,dG t n o.dst v=some (t' v))
  (h:∀(U':I) (u':V) (M':Own),cN m e R (la++l2) u' M'->J U' K (M'++L)->dk P G ops (t' u') U' rc=true/\cG P G ops n lp (t' u') U' Q) (hu:P.underlying ty=some (.slice e):=by kernel_rfl) (ha:qh P e m=true:=by kernel_rfl) (h2:dp P cl.argTypes[1]?=true:=by kernel_rfl):cG P G ops n ((ix,rc)::lp) t U Q:=by
 obtain⟨U',u',M',k1,k2,k3⟩:=z9 (P:=P) hr hs hx z hn ht hu ha h2;refine eX C hw ?_ (hp _)<|h U' u' M' k2 k3;rw[ho];exact dB E A F W h2 k1
end
theorem fe {α:Type} {P:α->Prop} {a b:α} (c:Bool) (h1:P a) (h0:P b):P (bif c then a else b):=by grind
theorem iW {α:Type} {P:α->Prop} {a b:α} (c:Bool) (h1:c=true->P a) (h0:c=false->P b):P (bif c then a else b):=by grind
theorem jI (a b:List de):dj (a++b)=dj a++dj b:=by unfold dj;simp_all
theorem Ab {e:de} (h:dR e=false):dj [e]= []:=by unfold dj;simp_all
theorem yh {e:de} (h:dR e=true):dj [e]= [e.read]:=by unfold dj;simp_all
theorem Dj {l:List de} (h:dj l= []):∀e∈l,dR e=false:=by
 intro e he;cases u:dR e with
 | false=>rfl
 | true=>
  have:e.read∈dj l:=List.mem_map_of_mem (List.mem_filter.2 ⟨he,u⟩)
  simp_all
def Grown (s s':TS):Prop:=(∃ext,s'.events=s.events++ext/\dj ext= [])/\s'.asked=s.asked
theorem Grown.refl (s:TS):Grown s s:=⟨⟨[],by simp,Z⟩,Z⟩
theorem Grown.trans {s s' s'':TS} (h:Grown s s') (h':Grown s' s''):Grown s s'':=by
 obtain⟨⟨x,h1,u⟩,z⟩:=h;obtain⟨⟨y,k1,k2⟩,A⟩:=h';exact⟨⟨x++y,by simp_all,by rw[jI,u,k2];rfl⟩,by rw[A,z]⟩
theorem DA (k:Nat) (x:XI) (s:TS):Grown s (dS k x s).1:=by
 obtain⟨P,z⟩:∃P:TS×Bool->Prop,P=fun r=>Grown s r.1:=⟨_,Z⟩
 have h0:∀(r:TS×Bool),r.1.events=s.events->r.1.asked=s.asked->P r:=fun r h1 u=>by rw[z];exact⟨⟨[],by rw[h1];simp,Z⟩,u⟩
 have hw:∀(r:TS×Bool) (e:de),dR e=false->r.1.events=s.events++[e]->r.1.asked=s.asked->P r:=fun r e h1 u A=>by rw[z];exact⟨⟨[e],u,Ab h1⟩,A⟩
 have:P (dS k x s):=by
  unfold dS;refine fe _ (h0 _ Z Z)<|fe _ (hw _ _ Z Z Z)<|fe _ (hw _ _ Z Z Z)<|fe _ (fe _ (h0 _ Z Z)<|h0 _ Z Z)<|fe _ (fe _ (h0 _ Z Z)<|h0 _ Z Z)<|fe _ (h0 _ Z Z)<|fe _ (fe _ (h0 _ Z Z)<|h0 _ Z Z)<|fe _ (h0 _ Z Z)<|fe _ (h0 _ Z Z)<|h0 _ Z Z
 simp_all
theorem qX (k:Nat) (c:XC) (s:TS):Grown s (cr k c s).1:=by
 grind [cr,Grown.refl,DA]
theorem oB (k:Nat) (c:XC):∀(f:Nat) (s:TS),Grown s (vX k c f s)
 | 0,s=>Grown.refl s
 | f+1,s=>by
  show Grown s (bif (cr k c s).2 then vX k c f (cr k c s).1 else(cr k c s).1);exact fe (P:=Grown s) _ ((qX k c s).trans<|oB k c f _)<|qX k c s
def lV (c:XC) (s:TS):Prop:=s.asks=true->∃x,c.ins[s.at_]?=some x/\(x.kind=2∨x.kind=4∨x.kind=5∨x.kind=6)
theorem FB {k:Nat} {x:XI} {s:TS} {bc nins:Int} (hx:fT bc nins k x=true) (hs:s.asks=false):(dS k x s).1.asks=true->(dS k x s).1.at_=s.at_/\(x.kind=2∨x.kind=4∨x.kind=5∨x.kind=6)/\(dS k x s).2=false:=by
 obtain⟨n,sh,hn,n1,aa,_,_⟩:=iX hx;obtain⟨P,hP⟩:∃P:TS×Bool->Prop,P=fun r=>r.1.asks=true->r.1.at_=s.at_/\(x.kind=2∨x.kind=4∨x.kind=5∨x.kind=6)/\r.2=false:=⟨_,Z⟩
 have ab:∀r:TS×Bool,r.1.asks=s.asks->P r:=fun r h1=>by simp_all
 have ne:∀m:Int,D x.kind m=false->x.kind≠m:=fun m h e=>by rw[e,ea] at h;cases h
 have:P (dS k x s):=by
  unfold dS
  grind
 simp_all
theorem uS {k:Nat} {c:XC} (hc:eK k c) {s:TS} (u:s.asks=false):lV c (cr k c s).1/\((cr k c s).2=true->(cr k c s).1.asks=false):=by
 unfold cr;cases hx:c.ins[s.at_]? with
 | none=>exact⟨fun h=>(by simp_all),fun h=>(by cases h)⟩
 | some x=>
  have h:=FB (k:=k) (hc.right x (gB_ hx)) u;refine⟨fun ha=>?_,fun h2=>?_⟩
  ·simp_all
  simp_all
theorem AX {k:Nat} {c:XC} (hc:eK k c):∀(f:Nat) (s:TS),s.asks=false->lV c (vX k c f s)
 | 0,s,u=>fun h=>by rw[show s.asks=true from h] at u;cases u
 | f+1,s,u=>by
  have h:=uS hc u;show lV c (bif (cr k c s).2 then vX k c f (cr k c s).1 else(cr k c s).1);cases z:(cr k c s).2 with
  | true=>exact AX hc f _ (h.2 z)
  | false=>exact h.1
theorem wM {k:Nat} {c:XC} (hc:eK k c):lV c (ke k c):=AX hc _ _ Z
theorem vh {k:Nat} {c:XC} (hc:eK k c) (s:TS) (v:Int):lV c (ez k c s v):=AX hc _ _ Z
theorem lh {a:rT} {v:Int} (h:a.kind=2∨a.kind=4∨a.kind=5∨a.kind=6):dR (bT a v)=true/\(bT a v).read=v:=by
 unfold bT;rcases h with h | h | h | h<;>rw[h]
 ·exact⟨Z,Z⟩
 ·exact fe (P:=fun e:de=>dR e=true/\e.read=v) (D v a.a) ⟨Z,Z⟩ ⟨Z,Z⟩
 ·exact⟨Z,Z⟩
 exact⟨Z,Z⟩
theorem rh {k:Nat} {c:XC} {s:TS} (h:lV c s) (u:s.asks=true):((lF k c s).kind=2∨(lF k c s).kind=4∨(lF k c s).kind=5∨(lF k c s).kind=6):=by
 obtain⟨x,hx,hk⟩:=h u;unfold lF;rw[hx];exact hk
theorem r5 {k:Nat} {c:XC} {s:TS} (h:lV c s) (u:s.asks=true) (v:Int):∃ext,(ez k c s v).events=s.events++bT (lF k c s) v::ext/\dj (bT (lF k c s) v::ext)= [v]:=by
 obtain⟨⟨ext,h1,z⟩,_⟩:=oB k c (jP c) (eH k c s v);obtain⟨A,C⟩:=lh (v:=v) (rh (k:=k) h u);refine⟨ext,?_,?_⟩
 ·unfold ez;rw[h1];show(s.events++[_])++ext=_
  simp_all
 rw[show bT (lF k c s) v::ext= [bT (lF k c s) v]++ext from Z,jI,yh A,z,C];rfl
theorem yu {k:Nat} {c:XC} (hc:eK k c):∀(A:List Int) (s:TS),lV c s->lV c (kI k c A s)/\∃ext m,(kI k c A s).events=s.events++ext/\dj ext=A.take m/\((kI k c A s).asks=true->A.length<=m)
 | [],s,h=>⟨h,[],0,by show s.events=_;simp,Z,fun _=>nR_ _⟩
 | v::r,s,h=>by
  show lV c (bif s.asks then kI k c r (ez k c s v) else s)/\∃ext m,(bif s.asks then kI k c r (ez k c s v) else s).events=s.events++ext/\dj ext=(v::r).take m/\((bif s.asks then kI k c r (ez k c s v) else s).asks=true->(v::r).length<=m);cases u:s.asks with
  | false=>exact⟨h,[],0,by simp_all,Z,fun h'=>by simp_all⟩
  | true=>
   obtain⟨e1,h1,z⟩:=r5 (k:=k) h u v;obtain⟨q,ext,m,h3,h4,h5⟩:=yu hc r _ (vh hc s v);refine⟨q,bT (lF k c s) v::e1++ext,m+1,?_,?_,fun h'=>?_⟩
   ·simp_all
   ·rw[jI,z,h4];rfl
   simp_all
theorem Ad {k:Nat} {c:XC} (v:Int):∀(A:List Int) (s:TS),kI k c (A++[v]) s=bif (kI k c A s).asks then ez k c (kI k c A s) v else kI k c A s
 | [],s=>rfl
 | a::r,s=>by
  show(bif s.asks then kI k c (r++[v]) (ez k c s a) else s)=bif (bif s.asks then kI k c r (ez k c s a) else s).asks then ez k c (bif s.asks then kI k c r (ez k c s a) else s) v else(bif s.asks then kI k c r (ez k c s a) else s);cases ha:s.asks with
  | false=>simp_all
  | true=>simp only[cond_true];exact Ad v r _
theorem pM {k:Nat} {c:XC} (hc:eK k c) (A:List Int):lV c (gN k c A)/\∃m,dj (gN k c A).events=A.take m/\((gN k c A).asks=true->A.length<=m):=by
 obtain⟨h,ext,m,h1,h2,h3⟩:=yu hc A (ke k c) (wM hc);obtain⟨⟨e0,h4,h5⟩,_⟩:=oB k c (jP c) ⟨0,List.replicate c.bc.toNat 0,[],0,0,false⟩
 grind [gN,jI,ke]
theorem ox {s:TS} {l:List de}:pX s l=true↔∃rest,s.events=l++rest:=by
 grind [pX,cL,List.take_append_drop,mn]
def om (k:Nat) (c:XC) (l:List de):Prop:=gU k c=true/\pX (gN k c<|dj l) l=true
theorem Fs {k:Nat} {c:XC} (hc:eK k c) {l rest:List de} (h:(gN k c<|dj l).events=l++rest):dj rest= []:=by
 obtain⟨_,m,h1,_⟩:=pM hc (dj l);rw[h,jI] at h1;have:=congrArg List.length h1
 grind [List.length_eq_zero_iff]
theorem JE {k:Nat} {c:XC} (h:gU k c=true):om k c []:=⟨h,ox.2 ⟨_,Z⟩⟩
theorem EW {k:Nat} {c:XC} {l:List de} {e:de} (h:om k c l) (he:(gN k c<|dj l).events[l.length]?=some e):om k c (l++[e])/\dR e=false:=by
 obtain⟨hf,h⟩:=h;have hc:=(py hf).1;obtain⟨rest,u⟩:=ox.1 h;have hq:=Fs hc u;rw[u,gR_<|nR_ _,Nat.sub_self] at he;cases rest with
 | nil=>cases he
 | cons e' r=>
  simp only[List.getElem?_cons_zero,oJ_] at he;subst he;have hne:=Dj hq e' (mS_ ..);refine⟨⟨hf,?_⟩,hne⟩;rw[jI,Ab hne,List.append_nil];exact ox.2 ⟨r,by rw[u];simp⟩
theorem CH {k:Nat} {c:XC} {l:List de} (h:om k c l) (he:(gN k c<|dj l).events[l.length]?=none) (u:(gN k c<|dj l).asks=true) (v:Int):om k c (l++[bT (lF k c<|gN k c<|dj l) v]):=by
 obtain⟨hf,h⟩:=h;have hc:=(py hf).1;obtain⟨rest,z⟩:=ox.1 h
 have hl:rest= []:=by
  simp_all
 subst hl;rw[List.append_nil] at z;have hk:=(pM hc<|dj l).1;obtain⟨A,C⟩:=lh (v:=v) (rh (k:=k) hk u);refine⟨hf,?_⟩;rw[jI,yh A,C]
 have e1:gN k c (dj l++[v])=ez k c (gN k c<|dj l) v:=by
  unfold gN at u⊢;rw[Ad,u];rfl
 rw[e1];obtain⟨ext,h1,_⟩:=r5 (k:=k) hk u v;exact ox.2 ⟨ext,by rw[h1,z];simp⟩
theorem jM {k:Nat} {c:XC}:D (fQ k c) 0=gU k c:=by
 unfold fQ;cases h:gU k c with
 | true=>rfl
 | false=>
  simp only[cond_false];cases h1:D (cS k c) 0 with
  | true=>rfl
  | false=>exact h1
theorem kX {k:Nat} {c:XC} {l:List de}:(bM k c l).2=0↔om k c l:=by
 unfold bM om;rw[jM];cases hf:gU k c with
 | false=>
  refine⟨fun h=>?_,fun h=>(by cases h.1)⟩;have h:fQ k c=0:=h;have:=jM (k:=k) (c:=c);rw[h,hf] at this;cases this
 | true=>
  show(iL k c (gN k c<|dj l) l).2=0↔_;unfold iL;cases ht:pX (gN k c<|dj l) l with
  | false=>exact⟨fun h=>(by cases h),fun h=>(by cases h.2)⟩
  | true=>
   refine⟨fun _=>⟨Z,Z⟩,fun _=>?_⟩;simp only[bd,cond_true,cond_false]
   grind
theorem qE {k:Nat} {c:XC} {l:List de} (h:(bM k c l).2=0):
  (∃e,bM k c l=(⟨e,gz,0⟩,0)/\om k c (l++[e])/\dR e=false)∨
  (∃a,bM k c l=(⟨lK,a,0⟩,0)/\(a.kind=2∨a.kind=4∨a.kind=5∨a.kind=6)/\∀v,om k c (l++[bT a v]))∨
  (∃n,bM k c l=(⟨lK,gz,n⟩,0)):=by
 have hF:=kX.1 h;obtain⟨hf,u⟩:=hF;have hc:=(py hf).1;unfold bM;rw[jM,hf];show(∃e,iL k c (gN k c<|dj l) l=_/\_)∨_;simp only[bd,cond_true,cond_false];unfold iL;rw[u];simp only[bd,cond_true,cond_false];cases he:(gN k c<|dj l).events[l.length]? with
 | some e=>
  obtain⟨h1,h2⟩:=EW ⟨hf,u⟩ he
  simp_all
 | none=>
  cases z:(gN k c<|dj l).asks with
  | true=>exact .inr (.inl ⟨_,Z,rh (pM hc _).1 z,fun v=>CH ⟨hf,u⟩ he z v⟩)
  | false=>simp_all
theorem tE {α β:Type} (f:α->β) {l:List α} (h:(l.map f).Nodup):l.Nodup:=List.Pairwise.of_map f (fun _ _ u e=>u (congrArg f e)) h
theorem Bk {α:Type}:∀{l m:List α},l.Nodup->(∀x∈l,x∈m)->m.length<=l.length->l.Perm m
 | [],m,_,_,h=>by simp_all
 | x::l,m,u,z,h=>by
  rw[List.nodup_cons] at u;obtain⟨i,hi⟩:=gO_ (z x<|mS_ ..);have hp:=ll hi;have hlen:=hp.length_eq;rw[List.length_cons] at hlen h;refine(List.Perm.cons x<|Bk (l:=l) (m:=m.eraseIdx i) u.2 (fun y hy=>?_) B).trans hp.symm
  grind
theorem Dc {α:Type}:∀{l m:List α},l.Nodup->(∀x∈l,x∈m)->l.length<=m.length
 | [],_,_,_=>Nat.zero_le _
 | x::l,m,u,z=>by
  rw[List.nodup_cons] at u;obtain⟨i,hi⟩:=gO_ (z x<|mS_ ..);have hp:=ll hi;have hlen:=hp.length_eq;rw[List.length_cons] at hlen⊢
  have:=Dc (l:=l) (m:=m.eraseIdx i) u.2 fun y hy=>by
   grind
  omega
def gH (loc:Int):List de->Nat
 | []=>0
 | e::l=>(bif (bif bD e then D e.loc loc else false) then 1 else 0)+gH loc l
def jd (loc:Int):List (List de)->Nat
 | []=>0
 | l::r=>gH loc l+jd loc r
def r7 (loc:Int) (p:List Int×Int):Bool:=D p.2 loc
theorem rj {loc:Int} {t:Nat}:∀{l:List de} {n:Nat},((gn t l n).filter<|r7 loc).length=gH loc l
 | [],_=>rfl
 | e::l,n=>by
  show(List.filter (r7 loc) (bif bD e then([.ofNat (t+1),.ofNat n],e.loc)::gn t l (n+1) else gn t l (n+1))).length=(bif (bif bD e then D e.loc loc else false) then 1 else 0)+gH loc l;cases hw:bD e with
  | false=>
   simp only[cond_false,nA_];exact rj
  | true=>
   simp only[cond_true];rw[List.filter_cons];show(if D e.loc loc=true then _ else _:LM).length=_;cases he:D e.loc loc with
   | true=>simp only[if_true,cond_true,List.length_cons];rw[rj];omega
   | false=>simp only[cond_false,nA_];rw[if_neg (by decide)];exact rj
theorem uk {loc:Int}:∀{ls:List (List de)} {t:Nat},((hU ls t).filter<|r7 loc).length=jd loc ls
 | [],_=>rfl
 | l::ls,t=>by
  show(List.filter (r7 loc) (gn t l 0++hU ls (t+1))).length=gH loc l+jd loc ls;rw[List.filter_append,lA_,rj,uk]
theorem Au {t:Nat} {k:List Int} {v:Int}:∀{l:List de} {n:Nat},(k,v)∈gn t l n↔∃i e,l[i]?=some e/\bD e=true/\k= [.ofNat (t+1),.ofNat (n+i)]/\v=e.loc
 | [],n=>⟨fun h=>(by cases h),fun⟨i,e,h,_⟩=>by simp at h⟩
 | e::l,n=>by
  show(k,v)∈(bif bD e then([.ofNat (t+1),.ofNat n],e.loc)::gn t l (n+1) else gn t l (n+1))↔_;have ih:=Au (t:=t) (k:=k) (v:=v) (l:=l) (n:=n+1)
  have up:(k,v)∈gn t l (n+1)↔∃i e',l[i]?=some e'/\bD e'=true/\k= [.ofNat (t+1),.ofNat (n+(i+1))]/\v=e'.loc:=by
   grind
  have cons:(∃i e',(e::l)[i]?=some e'/\bD e'=true/\k= [.ofNat (t+1),.ofNat (n+i)]/\v=e'.loc)↔(bD e=true/\k= [.ofNat (t+1),.ofNat n]/\v=e.loc)∨∃i e',l[i]?=some e'/\bD e'=true/\k= [.ofNat (t+1),.ofNat (n+(i+1))]/\v=e'.loc:=by
   constructor
   ·grind
   rintro (⟨u,z,h4⟩ | ⟨i,e',h1,u,z,h4⟩)
   ·exact⟨0,e,Z,u,z,h4⟩
   exact⟨i+1,e',by simpa using h1,u,z,h4⟩
  grind
theorem rQ {k:List Int} {v:Int}:∀{ls:List (List de)} {t:Nat},(k,v)∈hU ls t↔∃s i l e,ls[s]?=some l/\l[i]?=some e/\bD e=true/\k= [.ofNat (t+s+1),.ofNat i]/\v=e.loc
 | [],t=>⟨fun h=>(by cases h),fun⟨s,i,l,e,h,_⟩=>by simp at h⟩
 | l::ls,t=>by
  show(k,v)∈gn t l 0++hU ls (t+1)↔_;rw[List.mem_append,Au,rQ (ls:=ls)];constructor
  ·rintro (⟨i,e,h1,u,z,h4⟩ | ⟨s,i,l',e,h0,h1,u,z,h4⟩)
   ·exact⟨0,i,l,e,Z,h1,u,by rw[z,nA_],h4⟩
   exact⟨s+1,i,l',e,by simpa using h0,h1,u,by grind,h4⟩
  grind
theorem qH {k:List Int} {v:Int}:∀{ls:List (List dy)} {loc:Nat},(k,v)∈nr ls loc↔∃ln r id,ls[ln]?=some r/\id∈r/\k=id.ints/\v= .ofNat (loc+ln)
 | [],loc=>⟨fun h=>(by cases h),fun⟨ln,r,id,h,_⟩=>by simp at h⟩
 | r::ls,loc=>by
  show(k,v)∈gd loc r++nr ls (loc+1)↔_;rw[List.mem_append,qH (ls:=ls)];constructor
  ·rintro (h | ⟨ln,r',id,h1,u,z,h4⟩)
   ·obtain⟨id,h1,u⟩:=List.mem_map.1 h
    grind
   exact⟨ln+1,r',id,by simpa using h1,u,z,by grind⟩
  rintro ⟨ln,r',id,h1,u,z,h4⟩;cases ln with
  | zero=>
   have:r=r':=by simpa using h1
   subst this;exact .inl<|List.mem_map.2 ⟨id,u,by simp_all⟩
  | succ ln=>grind
theorem sU {loc:Nat} (r:List dy):(gd loc r).filter (r7 (.ofNat loc))=gd loc r:=List.filter_eq_self.2 fun p hp=>by
 obtain⟨id,_,rfl⟩:=List.mem_map.1 hp;show D (.ofNat loc) (.ofNat loc)=true;rw[fG];simp
theorem rY {loc x:Nat} (r:List dy) (h:loc≠x):(gd loc r).filter (r7 (.ofNat x))= []:=List.filter_eq_nil_iff.2 fun p hp=>by
 obtain⟨id,_,rfl⟩:=List.mem_map.1 hp;show¬D (.ofNat loc) (.ofNat x)=true;rw[fG];simp[h]
theorem vI {x:Nat}:∀{ls:List (List dy)} {loc ln:Nat} {r:List dy},ls[ln]?=some r->loc+ln=x->(nr ls loc).filter (r7 (.ofNat x))=gd x r
 | [],_,_,_,h,_=>by simp at h
 | q::ls,loc,0,r,h,hx=>by
  have:q=r:=by simpa using h
  subst this;have hx:loc=x:=by omega
  subst hx;show(gd loc q++nr ls (loc+1)).filter _=_;rw[List.filter_append,sU]
  have:(nr ls (loc+1)).filter (r7 (.ofNat loc))= []:=List.filter_eq_nil_iff.2 fun p hp=>by
   obtain⟨k,v⟩:=p;obtain⟨ln,r,id,_,_,_,rfl⟩:=qH.1 hp;show¬D (.ofNat (loc+1+ln)) (.ofNat loc)=true;rw[fG];simp;omega
  rw[this,List.append_nil]
 | q::ls,loc,ln+1,r,h,hx=>by
  show(gd loc q++nr ls (loc+1)).filter _=_;rw[List.filter_append,rY q B,vI (ls:=ls) (loc:=loc+1) (ln:=ln) (by simpa using h) B];rfl
def y8 (g:XG) (loc:Int) (id:dy):Bool:=
 bif (fE g id).isSome then(bif D id.iH 0 then false else bif bD (BY<|fE g id) then D (BY<|fE g id).loc loc else false) else false
structure FZ (g:XG) (ln:Nat) (r:List dy):Prop where
 OP:∀id∈r,y8 g (.ofNat ln) id=true
 nodup:r.Nodup
 Ew:r.length=jd (.ofNat ln) g.threads
theorem CX {x y:dy} (h:x.ints=y.ints):x=y:=by
 have:dq x.ints y.ints=true:=cL.2 h;rw[dy.same] at this;exact cL.1 this
theorem AP {g:XG} {ln:Nat} {id:dy}:y8 g (.ofNat ln) id=true↔(id.ints,Int.ofNat ln)∈hU g.threads 0:=by
 rw[rQ];unfold y8;constructor
 ·intro h;cases u:fE g id with
  | none=>rw[u] at h;cases h
  | some e=>
   rw[u] at h;obtain⟨th,ix⟩:=id;have h:(bif D th 0 then false else bif bD e then D e.loc (.ofNat ln) else false)=true:=h;cases h0:D th 0 with
   | true=>rw[h0] at h;cases h
   | false=>
    rw[h0] at h;cases hw:bD e with
    | false=>rw[hw] at h;cases h
    | true=>
     rw[hw] at h
     have hl:e.loc= .ofNat ln:=by
      have h:D e.loc (.ofNat ln)=true:=h;rw[dE] at h;simp_all
     obtain⟨t,i,rfl,rfl,_,_,hp⟩:=Js (by rw[u];rfl);cases t with
     | zero=>cases h0
     | succ t=>
      rw[qt] at u;cases z:g.threads[t]? with
      | none=>simp_all
      | some l=>
       rw[z] at u;exact⟨t,i,l,e,z,u,hw,by rw[nA_];rfl,hl.symm⟩
 rintro ⟨s,i,l,e,h1,A,C,h4,h5⟩;obtain⟨th,ix⟩:=id;rw[nA_] at h4;have h4: [th,ix]= [.ofNat (s+1),.ofNat i]:=h4;simp only[List.cons.injEq,and_true] at h4;obtain⟨rfl,rfl⟩:=h4;have he:fE g ⟨.ofNat (s+1),.ofNat i⟩=some e:=by rw[qt,h1];exact A
 rw[he];show(bif D (.ofNat (s+1)) 0 then false else bif bD e then D e.loc (.ofNat ln) else false)=true;rw[show D (.ofNat (s+1)) 0=false by rw[show(0:Int)= .ofNat 0 from Z,fG];simp,C,<-h5]
 grind [fG]
theorem ub {ls:List (List de)} {t:Nat}:(hU ls t).Nodup:=tE _ qZ
theorem tG {loc:Nat} {r:List dy} (h:r.Nodup):(gd loc r).Nodup:=by
 grind [gd,CX]
theorem vJ {g:XG} (A:∀(t:Nat) (l:List de) (i:Nat) (e:de),g.threads[t]?=some l->l[i]?=some e->bD e=true->∃ln:Nat,e.loc= .ofNat ln/\ln<g.order.length):
  (∀(ln:Nat) (r:List dy),g.order[ln]?=some r->FZ g ln r)↔(hU g.threads 0).Perm (nr g.order 0):=by
 constructor
 ·intro h;refine Bk ub (fun p hp=>?_) ?_
  ·obtain⟨k,v⟩:=p;obtain⟨s,i,l,e,h1,G,K,h4,h5⟩:=rQ.1 hp;obtain⟨ln,L,M⟩:=A s l i e h1 G K;obtain⟨r,z⟩:=cq M;have ho:=h ln r z
   have hq:(gd ln r).Perm ((hU g.threads 0).filter<|r7 (.ofNat ln)):=by
    refine Bk (tG ho.nodup) (fun q hq=>?_) ?_
    ·obtain⟨id,u,rfl⟩:=List.mem_map.1 hq;refine List.mem_filter.2 ⟨AP.1<|ho.OP id u,?_⟩;show D (.ofNat ln) (.ofNat ln)=true;rw[fG];simp
    rw[uk,<-ho.Ew];unfold gd;simp_all
   have hm:(k,v)∈gd ln r:=hq.mem_iff.2 (List.mem_filter.2 ⟨hp,by show D v (.ofNat ln)=true;rw[h5,L,fG];simp⟩);obtain⟨id,u,he⟩:=List.mem_map.1 hm;cases he;exact qH.2 ⟨ln,r,id,z,u,Z,by rw[nA_]⟩
  
  have key:∀(m:Nat) (ls:List (List dy)),(∀(ln:Nat) (r:List dy),ls[ln]?=some r->FZ g (m+ln) r)->((nr ls m).Nodup/\∀p∈nr ls m,p∈hU g.threads 0):=by
   intro m ls;induction ls generalizing m with
   | nil=>intro _;exact⟨List.nodup_nil,fun p hp=>by cases hp⟩
   | cons r ls ih=>
    intro F
    obtain⟨Q,R⟩:=ih (m+1) fun ln r' E=>by
     have:=F (ln+1) r' (by simpa using E)
     grind
    have h0:=F 0 r Z;rw[Nat.add_zero] at h0;refine⟨?_,fun p hp=>?_⟩
    ·show(gd m r++nr ls (m+1)).Nodup;rw[List.nodup_append];refine⟨tG h0.nodup,Q,fun a W b hb aa=>?_⟩;obtain⟨id,_,rfl⟩:=List.mem_map.1 W
     grind [qH]
    rcases List.mem_append.1 (show p∈gd m r++nr ls (m+1) from hp) with hp | hp
    ·obtain⟨id,u,rfl⟩:=List.mem_map.1 hp;exact AP.1<|h0.OP id u
    exact R p hp
  obtain⟨X,k2⟩:=key 0 g.order fun ln r z=>by simp_all
  exact Dc X k2
 intro hp ln r z;have C:∀id∈r,(id.ints,Int.ofNat ln)∈hU g.threads 0:=fun id u=>hp.mem_iff.2 (qH.2 ⟨ln,r,id,z,u,Z,by rw[nA_]⟩)
 have hf:=vI (x:=ln) (loc:=0) z (nA_ _);refine⟨fun id u=>AP.2 (C id u),?_,?_⟩
 ·grind [ub,gd,tE]
 have:=(hp.filter<|r7 (.ofNat ln)).length_eq
 grind [uk,gd]
theorem mC {g:XG} (h1:eV g=false) (u:¬zl g):cu g=2:=by
 have z:cu g≠0:=fun h=>u (iA.1 h)
 unfold cu at z⊢
 grind
theorem DI {g:XG} (h:bR 4 (.ofNat g.threads.length)=true):eV g=true:=by unfold eV;rw[h];rfl
theorem DK {g:XG} (h:bR 6 (.ofNat g.init.length)=true):eV g=true:=by
 grind [eV]
theorem DJ {g:XG} {i:Nat} {x:List de} (hx:g.threads[i]?=some x) (h:bR 14 (.ofNat x.length)=true):eV g=true:=by
 grind [eV]
theorem FJ {g:XG} {i:Nat} (h1:bR 4 (.ofNat g.threads.length)=false) (h2:bR 6 (.ofNat g.init.length)=false) (hi:g.threads.length<=i) (h3:∀(k:Nat) (l:List de),k<i->g.threads[k]?=some l->bR 14 (.ofNat l.length)=false):eV g=false:=by
 grind [eV,gO_]
theorem qk {g:XG} (h:eV g=true):cu g=3:=by unfold cu;rw[h];rfl
theorem N2 {a b:Int} (h:D a b=true):a=b:=by rw[dE] at h;simp_all
theorem Dr {e:de} {n:Nat} (h:cj e (.ofNat n)=true) (hw:bD e=true):∃ln:Nat,e.loc= .ofNat ln/\ln<n:=by
 unfold cj at h
 have hk:D e.kind 4=false:=by
  grind [bD,N2]
 rw[hk] at h
 have key:(bif bd (bR e.loc 0) then bR e.loc (.ofNat n) else false)=true:=by
  simp_all
 cases h0:bR e.loc 0 with
 | true=>rw[h0] at key;cases key
 | false=>
  rw[h0] at key;obtain⟨ln,hl⟩:=iD h0;rw[hl] at key;exact⟨ln,hl,bk key⟩
theorem Kf {g:XG} {t n:Nat} {e:de} {q:dy} (h:zd g t n e q=true):cj e (.ofNat g.init.length)=true/\dH g ⟨.ofNat (t+1),.ofNat n⟩ q=true:=by
 unfold zd at h
 simp_all
theorem Oi {g:XG} {t n:Nat} {e:de} {q:dy} (h1:cj e (.ofNat g.init.length)=true) (u:dH g ⟨.ofNat (t+1),.ofNat n⟩ q=true):zd g t n e q=true:=by
 unfold zd;rw[h1];exact u
theorem ql {loc:Int}:∀{l:List de} {i:Nat} {x:de},l[i]?=some x->gH loc (l.take (i+1))=gH loc (l.take i)+(bif (bif bD x then D x.loc loc else false) then 1 else 0)
 | [],_,_,h=>by simp at h
 | e::l,0,x,h=>by
  have:e=x:=by simpa using h
  subst this;show(bif (bif bD e then D e.loc loc else false) then 1 else 0)+gH loc []=0+_;rw[nA_];rfl
 | e::l,i+1,x,h=>by
  have h':l[i]?=some x:=by simpa using h
  show(bif (bif bD e then D e.loc loc else false) then 1 else 0)+gH loc (l.take (i+1))=(bif (bif bD e then D e.loc loc else false) then 1 else 0)+gH loc (l.take i)+_;rw[ql h',Nat.add_assoc]
theorem LK {loc:Int} {l:List de} {i:Nat} {x:de} (h:l[i]?=some x) (h1:bD x=true) (u:D x.loc loc=true):gH loc (l.take (i+1))=gH loc (l.take i)+1:=by
 rw[ql h,h1,u];rfl
theorem I0 {loc:Int} {l:List de} {i:Nat} {x:de} (h:l[i]?=some x) (h1:bD x=false∨D x.loc loc=false):gH loc (l.take (i+1))=gH loc (l.take i):=by
 grind [ql]
theorem vq {loc:Int}:∀{ls:List (List de)} {i:Nat} {x:List de},ls[i]?=some x->jd loc (ls.take (i+1))=jd loc (ls.take i)+gH loc x
 | [],_,_,h=>by simp at h
 | l::ls,0,x,h=>by
  have:l=x:=by simpa using h
  subst this;show gH loc l+jd loc []=0+_;rw[nA_];rfl
 | l::ls,i+1,x,h=>by
  have h':ls[i]?=some x:=by simpa using h
  show gH loc l+jd loc (ls.take (i+1))=gH loc l+jd loc (ls.take i)+_;rw[vq h',Nat.add_assoc]
theorem um {loc:Int}:∀{l:List de},gH loc l<=l.length
 | []=>nR_ _
 | e::l=>by
  have:=um (loc:=loc) (l:=l);show(bif (bif bD e then D e.loc loc else false) then 1 else 0)+gH loc l<=l.length+1;cases (bif bD e then D e.loc loc else false) with
  | true=>show 1+_<=_;omega
  | false=>show 0+_<=_;omega
theorem zx {loc:Int} {b:Nat}:∀{ls:List (List de)},(∀l∈ls,l.length<=b)->jd loc ls<=ls.length*b
 | [],_=>Nat.zero_le _
 | l::ls,h=>by
  have h1:=h l (mS_ ..);have h2:=zx (loc:=loc) (ls:=ls) fun x hx=>h x (mC_ _ hx)
  grind [um,jd,Nat.succ_mul]
theorem AK {loc:Int} {ls:List (List de)} {i:Nat} (h1:ls.length<=4) (u:∀l∈ls,l.length<=14):jd loc (ls.take i)<=56:=by
 have h3:=zx (loc:=loc) (b:=14) (ls:=ls.take i) fun l hl=>u l (List.mem_of_mem_take hl)
 grind
theorem J9 {α:Type} {l:List α} (h:l.Nodup) {i j:Nat} {a b:α} (aa:i<j) (ha:l[i]?=some a) (hb:l[j]?=some b):a≠b:=fun e=>by
 grind [List.pairwise_iff_getElem]
theorem Ka {α:Type} {l:List α} (h:∀(i j:Nat) (a b:α),i<j->l[i]?=some a->l[j]?=some b->a≠b):l.Nodup:=
 List.pairwise_iff_getElem.2 fun i j h1 z u=>h i j _ _ u (gC h1) (gC z)
def jr (g:XG) (loc:Int):Int:=match(cC g loc).getLast? with | none=>0 | some id=>(BY<|fE g id).write
def qv (k:Nat):List XC->List (List de)->Option (List Int)
 | [],_=>some []
 | _::_,[]=>none
 | c::l,r::g=>bif D (bM k c r).2 0 then(qv k l g).map fun e=>(bM k c r).1.fin::e else none
def fB (k:Nat) (l:List XC) (g:XG):Option (List Int):=
 bif bd (D (cu g) 0) then none else bif bd (D (.ofNat l.length) (.ofNat g.threads.length)) then none else qv k l g.threads
def lX (g:XG):List Int->Nat->Bool
 | [],_=>true
 | v::r,i=>bif bd (D v<|jr g (.ofNat i)) then false else lX g r (i+1)
def jq (k:Nat) (l:List XC) (m:List Int) (g:XG):Option (List Int):=
 match fB k l g with
 | none=>none
 | some e=>bif bd (D (.ofNat m.length) (.ofNat g.init.length)) then none else bif lX g m 0 then some e else none
def zR (k:Nat) (l:List XC) (m:List Int) (g:XG):Bool:=(jq k l m g).isSome
structure XM where
 mem:List Int
 g:XG
structure yV where
 xd:de
 fr:dy
 place:Int
 mem:List Int
def n7 (n:jk):Int:=bif bd (D n.ask.kind 0) then n.ask.loc else n.event.loc
def fL (n:jk) (m:List Int) (g:XG):yV:=
 bif D n.event.kind 4 then⟨n.event,⟨0,0⟩,0,m⟩ else
 let all:=cC g (n7 n)
 let xd:=bif bd (D n.ask.kind 0) then bT n.ask ((m[(n7 n).toNat]?).getD 0) else n.event
 let fr:=bif bd (D n.ask.kind 0) then(all.getLast?).getD ⟨0,0⟩ else⟨0,0⟩
 bif bd (D xd.kind 1) then⟨xd,fr,.ofNat all.length,m.set (n7 n).toNat xd.write⟩ else⟨xd,fr,0,m⟩
def ek (n:jk) (g:XG):Bool:=bif bd (D n.event.kind 4) then(bif bR (n7 n) 0 then true else bd (bR (n7 n) (.ofNat g.init.length))) else false
def kh (k:Nat) (c:XC) (row:List de) (g:XG):Int:=
 bif bd (D (bM k c row).2 0) then(bM k c row).2 else
 bif bd (D (bM k c row).1.fin 0) then 10 else
 bif bd (bR (.ofNat row.length) 14) then 3 else
 bif ek (bM k c row).1 g then 2 else 0
def yT (p:yV) (th:Int) (g:XG):Option XM×Int:=
 match gw g th p.xd p.fr p.place with
 | (some g',e)=>(some ⟨p.mem,g'⟩,e)
 | (none,e)=>(none,e)
def eM (k:Nat) (l:List XC) (r:XM) (t:Nat):Option XM×Int:=
 match l[t]?,r.g.threads[t]? with
 | some c,some row=>bif bd (D (kh k c row r.g) 0) then(none,kh k c row r.g) else yT (fL (bM k c row).1 r.mem r.g) (.ofNat (t+1)) r.g
 | _,_=>(none,2)
structure gu (k:Nat) (l:List XC) (r:XM):Prop where
 Gb:cu r.g=0
 len:r.g.threads.length=l.length
 mem:r.mem.length=r.g.init.length
 last:∀i:Nat,i<r.g.init.length->r.mem[i]?=some (jr r.g (.ofNat i))
 fits:∀(t:Nat) (c:XC) (row:List de),l[t]?=some c->r.g.threads[t]?=some row->om k c row
theorem xp {k:Nat}:∀{l:List XC} {g:List (List de)},l.length=g.length->(∀(t:Nat) (c:XC) (row:List de),l[t]?=some c->g[t]?=some row->om k c row)->∃e,qv k l g=some e/\e.length=l.length
 | [],_,_,_=>⟨[],Z,Z⟩
 | _::_,[],h,_=>by simp at h
 | c::l,r::g,h,hf=>by
  obtain⟨e,he,hl⟩:=xp (k:=k) (l:=l) (g:=g) (by simpa using h) (fun t c row h1 u=>hf (t+1) c row (by simpa using h1) (by simpa using u));have:=kX.2 (hf 0 c r Z Z);refine⟨(bM k c r).1.fin::e,?_,?_⟩
  ·unfold qv;rw[this,he];rfl
  simp[hl]
theorem Da {g:XG}:∀{m:List Int} {i:Nat},(∀j v,m[j]?=some v->v=jr g (.ofNat (i+j)))->lX g m i=true
 | [],_,_=>rfl
 | v::r,i,h=>by
  have h0:=h 0 v Z;rw[Nat.add_zero] at h0;unfold lX;rw[h0,ea];exact Da fun j v hv=>by have:=h (j+1) v (by simpa using hv);rwa[show i+1+j=i+(j+1) by omega]
theorem gu.is {k:Nat} {l:List XC} {r:XM} (h:gu k l r):zR k l r.mem r.g=true:=by
 obtain⟨e,he,_⟩:=xp (k:=k) (l:=l) (g:=r.g.threads) h.len.symm h.fits;unfold zR jq fB;rw[h.Gb,h.len,ea,he];simp only[show bd (D 0 0)=false from Z,show bd true=false from Z,cond_false];rw[h.mem,Da fun j v hv=>?_]
 ·simp only[ea,bd,cond_true,cond_false];rfl
 have hj:=(gA.1 hv).1;have:=h.last j (by rw[<-h.mem];exact hj)
 simp_all
theorem Ki {g:XG} (h:zl g) {ln:Nat} {r:List dy} {id:dy} (u:g.order[ln]?=some r) (hm:id∈r):∃w,fE g id=some w:=by
 have h1:=h.perm.mem_iff.2 (xX (loc:=0) u hm);obtain⟨s,i,l,e,z,k2,_,A,_⟩:=rQ.1 h1;have e1:id=⟨.ofNat (s+1),.ofNat i⟩:=CX (by rw[A,nA_];rfl);subst e1;exact⟨e,by rw[qt,z];exact k2⟩
theorem Ml {g:XG} {ln:Nat} (h:ln<g.init.length):∃w,fE g ⟨0,.ofNat ln⟩=some w:=by
 refine⟨⟨2,ln,1,0,g.init[ln]⟩,?_⟩;show(g.init[ln]?).map _=_
 simp_all
theorem tB {g:XG} (hc:cu g=0) {ln:Nat} {r:List dy} (u:g.order[ln]?=some r):jr g (.ofNat ln)=(BY<|fE g ((r.getLast?).getD ⟨0,.ofNat ln⟩)).write:=by
 unfold jr;rw[eG (by rw[hc];rfl) u]
 grind
theorem ib {g:XG} (hc:cu g=0) {ln:Nat} (h:ln<g.init.length):∃r,g.order[ln]?=some r:=cq (by rw[(iA.1 hc).order];exact h)
theorem HV {g g':XG} (hc:cu g=0) (u:cu g'=0) (hold:∀id w,fE g id=some w->fE g' id=some w) {ln:Nat} (h:ln<g.init.length) (A:g'.order[ln]?=g.order[ln]?):jr g' (.ofNat ln)=jr g (.ofNat ln):=by
 obtain⟨r,z⟩:=ib hc h;rw[tB hc z,tB u (by rw[A];exact z)]
 have:∃w,fE g ((r.getLast?).getD ⟨0,.ofNat ln⟩)=some w:=by
  cases hl:r.getLast? with
  | none=>exact Ml h
  | some x=>exact Ki (iA.1 hc) z (List.mem_of_getLast? hl)
 grind
theorem IT {g g':XG} {th pl:Int} {e:de} {fr:dy} (h:gw g th e fr pl=(some g',0)):g'.init=g.init:=by
 obtain⟨_,tm,row,frow,_,_,_,_,_,rfl,_⟩:=ka h;rfl
theorem F1 {g g':XG} {tm:Nat} {pl:Int} {e:de} {fr:dy} (h:gw g (.ofNat (tm+1)) e fr pl=(some g',0)):∃row,g.threads[tm]?=some row/\g'.threads=g.threads.set tm (row++[e]):=by
 obtain⟨_,t2,row,frow,ht,h1,_,_,_,rfl,_⟩:=ka h
 grind [mD]
theorem Hm {g g':XG} {th pl:Int} {e:de} {fr:dy} (h:gw g th e fr pl=(some g',0)) {ln:Nat} (hl:bD e=true->e.loc≠ .ofNat ln):g'.order[ln]?=g.order[ln]?:=by
 obtain⟨_,tm,row,frow,_,_,_,_,hp,rfl,_⟩:=ka h
 grind [mD,GH,ma]
theorem Eh {g g':XG} {tm ln:Nat} {e:de} {fr:dy} {r:List dy} (u:g.order[ln]?=some r) (h:gw g (.ofNat (tm+1)) e fr (.ofNat (r.length+1))=(some g',0)) (hw:bD e=true) (hl:e.loc= .ofNat ln):∃row,g.threads[tm]?=some row/\g'.order[ln]?=some (r++[⟨.ofNat (tm+1),.ofNat row.length⟩]):=by
 obtain⟨_,t2,row,frow,ht,h1,_,_,_,rfl,_⟩:=ka h;have:tm=t2:=by grind
 subst this;refine⟨row,h1,?_⟩;rw[mD];show(Ie g.order e _ _)[ln]?=_;unfold Ie;rw[hw,hl];have hlt:=(gA.1 u).1
 simp_all
theorem nH {n:jk} {m:List Int} {g:XG} (h:D n.event.kind 4=true):fL n m g=⟨n.event,⟨0,0⟩,0,m⟩:=by unfold fL;rw[h];rfl
theorem vg {a:rT} {v:Int} (h:a.kind=2∨a.kind=4∨a.kind=5∨a.kind=6):(bT a v).loc=a.loc/\(dR (bT a v)=true):=by
 refine⟨?_,(lh h).1⟩;unfold bT;rcases h with h | h | h | h<;>rw[h]
 ·rfl
 ·exact fe (P:=fun e:de=>e.loc=a.loc) (D v a.a) Z Z
 ·rfl
 rfl
structure Ef (k:Nat) (l:List XC) (r:XM) (t:Nat) (c:XC) (row:List de) (p:yV) (r':XM):Prop where
 code:l[t]?=some c
 rowAt:r.g.threads[t]?=some row
 err:kh k c row r.g=0
 j1:p=fL (bM k c row).1 r.mem r.g
 add:gw r.g (.ofNat (t+1)) p.xd p.fr p.place=(some r'.g,0)
 mem:r'.mem=p.mem
theorem DB {k:Nat} {l:List XC} {r r':XM} {t:Nat} (h:eM k l r t=(some r',0)):∃c row p,Ef k l r t c row p r':=by
 unfold eM at h;cases h1:l[t]? with
 | none=>rw[h1] at h;cases h
 | some c=>
 cases z:r.g.threads[t]? with
 | none=>simp_all
 | some row=>
 rw[h1,z] at h;dsimp only at h;cases u:D (kh k c row r.g) 0 with
 | false=>rw[u] at h;cases h
 | true=>
  rw[u] at h;have h:yT (fL (bM k c row).1 r.mem r.g) (.ofNat (t+1)) r.g=(some r',0):=h;unfold yT at h;cases h4:gw r.g (.ofNat (t+1)) (fL (bM k c row).1 r.mem r.g).xd (fL (bM k c row).1 r.mem r.g).fr (fL (bM k c row).1 r.mem r.g).place with
  | mk o e=>
   rw[h4] at h;cases o with
   | none=>cases h
   | some g'=>
    simp only[Prod.mk.injEq,oJ_] at h;obtain⟨rfl,rfl⟩:=h;exact⟨c,row,_,h1,z,s5 u,Z,h4,Z⟩
theorem Ef.step {k:Nat} {l:List XC} {r r':XM} {t:Nat} {c:XC} {row:List de} {p:yV} (h:Ef k l r t c row p r'):eM k l r t=(some r',0):=by
 unfold eM;rw[h.code,h.rowAt];dsimp only;rw[h.err,<-h.j1];show yT p _ _=_;unfold yT;rw[h.add];dsimp only;obtain⟨m,g⟩:=r';have:=h.mem
 simp_all
theorem zF {k:Nat} {c:XC} {row:List de} {g:XG} (h:kh k c row g=0):(bM k c row).2=0/\(bM k c row).1.fin=0/\row.length<14/\ek (bM k c row).1 g=false:=by
 unfold kh at h;cases h1:D (bM k c row).2 0 with
 | false=>
  rw[h1] at h;have h:(bM k c row).2=0:=h;rw[h] at h1;cases h1
 | true=>
 rw[h1] at h;cases u:D (bM k c row).1.fin 0 with
 | false=>rw[u] at h;cases h
 | true=>
 rw[u] at h;cases z:bR (.ofNat row.length) 14 with
 | false=>rw[z] at h;cases h
 | true=>
 rw[z] at h;cases h4:ek (bM k c row).1 g with
 | true=>rw[h4] at h;cases h
 | false=>exact⟨s5 h1,s5 u,bk (b:=14) z,Z⟩
theorem mB {n:jk} {g:XG} (h:ek n g=false) (hk:D n.event.kind 4=false):∃ln:Nat,n7 n= .ofNat ln/\ln<g.init.length:=by
 unfold ek at h;rw[hk] at h;have h:(bif bR (n7 n) 0 then true else bd (bR (n7 n) (.ofNat g.init.length)))=false:=h;cases h1:bR (n7 n) 0 with
 | true=>rw[h1] at h;cases h
 | false=>
  rw[h1] at h;obtain⟨ln,hl⟩:=iD h1;rw[hl] at h⊢;exact⟨ln,Z,bk<|bn h⟩
theorem sr {g g':XG} {th:Int} {e:de} {fr:dy} {ln:Nat} (h:gw g th e fr (.ofNat (cC g (.ofNat ln)).length)=(some g',0)) (hl:ln<g.init.length):bD e=true:=by
 obtain⟨hc,_,_,_,_,_,_,_,hb,_,_⟩:=ka h;unfold cX at hb;obtain⟨o,u⟩:=ib hc hl;cases hw:bD e with
 | true=>rfl
 | false=>rw[hw,eG (by rw[hc];rfl) u] at hb;cases hb
structure Ed (k:Nat) (c:XC) (row:List de) (r:XM) (p:yV):Prop where
 fits:om k c (row++[p.xd])
 look:D (bM k c row).1.event.kind 4=false->∃ln:Nat,ln<r.g.init.length/\n7 (bM k c row).1= .ofNat ln/\p.xd.loc= .ofNat ln/\p.xd.kind≠4
 cases:(p.xd.kind=4/\p.mem=r.mem/\p.place=0)∨∃ln:Nat,ln<r.g.init.length/\p.xd.loc= .ofNat ln/\p.xd.kind≠4/\((bD p.xd=false/\p.mem=r.mem/\p.place=0)∨(bD p.xd=true/\p.mem=r.mem.set ln p.xd.write/\p.place= .ofNat (cC r.g (.ofNat ln)).length))
theorem Gu {e:de} {n:Int} (h:D e.kind n=false):e.kind≠n:=fun u=>by rw[u,ea] at h;cases h
theorem MG {k:Nat} {c:XC} {row:List de} {r:XM} {th:Int} {g':XG} (h:kh k c row r.g=0) (u:gw r.g th (fL (bM k c row).1 r.mem r.g).xd (fL (bM k c row).1 r.mem r.g).fr (fL (bM k c row).1 r.mem r.g).place=(some g',0)):Ed k c row r (fL (bM k c row).1 r.mem r.g):=by
 obtain⟨h1,h2,h3,h4⟩:=zF h;rcases qE h1 with ⟨e,he,hf,hr⟩ | ⟨a,L,hk,hf⟩ | ⟨n,M⟩
 ·have key:∀p:yV,fL (bM k c row).1 r.mem r.g=p->Ed k c row r p:=by
   rw[he] at h4 u⊢;intro p hp;rw[hp] at u;dsimp only at h4;cases h5:D e.kind 4 with
   | true=>
    rw[nH h5] at hp;subst hp;exact⟨hf,fun hh=>(by simp_all),.inl ⟨N2 h5,Z,Z⟩⟩
   | false=>
    obtain⟨ln,hl,z⟩:=mB h4 h5;have F:e.loc= .ofNat ln:=hl;unfold fL at hp;rw[hl] at hp;dsimp only at hp;rw[h5,show D gz.kind 0=true from Z] at hp;simp only[show bd true=false from Z,cond_false] at hp;cases K:D e.kind 1 with
    | true=>
     grind [dR]
    | false=>
     rw[K] at hp;simp only[show bd false=true from Z,cond_true] at hp;subst hp;exact⟨hf,fun _=>⟨ln,z,by rw[he];exact hl,F,Gu h5⟩,.inr ⟨ln,z,F,Gu h5,.inr ⟨sr u z,Z,Z⟩⟩⟩
  exact key _ Z
 ·have key:∀p:yV,fL (bM k c row).1 r.mem r.g=p->Ed k c row r p:=by
   rw[L] at h4 u⊢;intro p hp;rw[hp] at u;have G:D a.kind 0=false:=by rcases hk with e | e | e | e<;>rw[e]<;>rfl
   have Q:n7 ⟨lK,a,0⟩=a.loc:=by unfold n7;dsimp only;rw[G];rfl
   obtain⟨ln,hl,z⟩:=mB h4 Z;unfold fL at hp;rw[hl] at hp;dsimp only at hp;rw[G,show D lK.kind 4=false from Z] at hp;simp only[show bd false=true from Z,cond_true,cond_false] at hp;have C:∀v,(bT a v).loc= .ofNat ln:=fun v=>by rw[(vg hk).1,<-Q,hl]
   have E:∀v,(bT a v).kind≠4:=fun v R=>by
    have h5:=(lh (v:=v) hk).1;unfold dR at h5;rw[R] at h5;cases h5
   generalize hv:(r.mem[(Int.ofNat ln).toNat]?).getD 0=v at hp;have A:n7 (bM k c row).1= .ofNat ln:=by rw[L];exact hl
   cases K:D (bT a v).kind 1 with
   | true=>
    rw[K] at hp;simp only[show bd true=false from Z,cond_false] at hp;subst hp;refine⟨hf v,fun _=>⟨ln,z,A,C v,E v⟩,.inr ⟨ln,z,C v,E v,.inl ⟨?_,Z,Z⟩⟩⟩
    grind [bD,N2]
   | false=>
    rw[K] at hp;simp only[show bd false=true from Z,cond_true] at hp;subst hp;exact⟨hf v,fun _=>⟨ln,z,A,C v,E v⟩,.inr ⟨ln,z,C v,E v,.inr ⟨sr u z,Z,Z⟩⟩⟩
  exact key _ Z
 rw[M] at h4 u;exfalso;obtain⟨ln,hl,z⟩:=mB h4 Z;obtain⟨hc,_,_,_,_,_,_,_,hp,_,_⟩:=ka u;have hp:(!D (.ofNat (cC r.g<|n7 ⟨lK,gz,n⟩).length) 0)=false:=hp;obtain⟨q,hq⟩:=ib hc z;rw[hl,eG (by rw[hc];rfl) hq] at hp;cases hp
theorem gu.step {k:Nat} {l:List XC} {r r':XM} {t:Nat} (h:gu k l r) (hs:eM k l r t=(some r',0)):gu k l r'/\r'.g.init=r.g.init:=by
 obtain⟨c,row,p,hp⟩:=DB hs;have hadd:=hp.add;rw[hp.j1] at hadd;have hok:=MG hp.err hadd;rw[<-hp.j1] at hok hadd;obtain⟨tm,row',ht,W,C,z,aa,_,_,hold,_⟩:=Hl hadd;have hi:=IT hadd;obtain⟨A,E,F⟩:=F1 hadd;rw[hp.rowAt] at E;cases E;have hlen:r'.g.threads.length=l.length:=by rw[F,List.length_set];exact h.len
 have Q:tm=t:=by grind
 subst Q;rw[hp.rowAt] at W;cases W;refine⟨⟨z,hlen,?_,fun i u=>?_,fun X c2 A h1 G=>?_⟩,hi⟩
 ·rw[hp.mem,hi,<-h.mem];rcases hok.cases with ⟨_,e,_⟩ | ⟨ln,_,_,_,⟨_,e,_⟩ | ⟨_,e,_⟩⟩<;>rw[e]
  rw[List.length_set]
 ·rw[hi] at u;rw[hp.mem];have same:(bD p.xd=true->p.xd.loc≠ .ofNat i)->jr r'.g (.ofNat i)=jr r.g (.ofNat i):=fun hw=>HV C z hold u (Hm hadd hw)
  rcases hok.cases with ⟨e1,e,_⟩ | ⟨ln,K,L,_,⟨e1,e,_⟩ | ⟨hw,e,epl⟩⟩
  ·rw[e,same (fun hw=>by unfold bD at hw;rw[e1] at hw;cases hw)];exact h.last i u
  ·rw[e,same (fun hw=>by simp_all)];exact h.last i u
  rw[e]
  by_cases M:ln=i
  ·subst M;rw[List.getElem?_set_self (by rw[h.mem];exact K)];obtain⟨q,hq⟩:=ib C K;have R:p.place= .ofNat (q.length+1):=by rw[epl,eG (by rw[C];rfl) hq];rfl
   rw[R] at hadd;obtain⟨ab,h3,ho⟩:=Eh hq hadd hw L;rw[hp.rowAt] at h3
   grind [tB,List.getLast?_append,BY]
  rw[List.getElem?_set_ne M,same (fun _=>by grind)];exact h.last i u
 rw[F] at G
 by_cases e:tm=X
 ·subst e;rw[List.getElem?_set_self (gA.1 hp.rowAt).1] at G;rw[hp.code] at h1;cases h1;cases G;exact hok.fits
 rw[List.getElem?_set_ne e] at G;exact h.fits X c2 A h1 G
theorem gu.start {k:Nat} {l:List XC} {init:List Int} (hl:l.length<=4) (hi:init.length<=6) (hf:∀c∈l,gU k c=true):gu k l ⟨init,⟨init,List.replicate l.length [],List.replicate l.length [],List.replicate init.length []⟩⟩:=by
 have hw:∀n t,hU (List.replicate n []) t= []:=by
  intro n;induction n with
  | zero=>intro t;rfl
  | succ n ih=>grind [gn,hU]
 have ho:∀n t,nr (List.replicate n []) t= []:=by
  intro n;induction n with
  | zero=>intro t;rfl
  | succ n ih=>grind [gd,nr]
 have z:zl ⟨init,List.replicate l.length [],List.replicate l.length [],List.replicate init.length []⟩:=by
  refine⟨by simpa using hl,hi,fun i x hx=>?_,by simp,by simp,fun i x f hx hf=>?_,?_⟩
  ·grind
  ·grind
  simp_all
 have hc:=iA.2 z;refine⟨hc,by simp,Z,fun i u=>?_,fun t c row h1 h2=>?_⟩
 ·have hq:(List.replicate init.length ([]:List dy))[i]?=some []:=by
   simp_all
  rw[tB hc hq];show init[i]?=some (BY ((init[i]?).map fun v=>(⟨2,i,1,0,v⟩:de))).write;rw[gC u];rfl
 grind [JE]
def jh (k:Nat) (l:List XC) (r:XM) (p:Int):Option XM:=
 bif bR p 1 then none else bif bR (.ofNat l.length) p then none else bif D (eM k l r (p.toNat-1)).2 0 then(eM k l r (p.toNat-1)).1 else none
def lL (k:Nat) (l:List XC) (s:XM×List Int) (p:Int):XM×List Int:=match jh k l s.1 p with | some r=>(r,s.2++[p]) | none=>s
def cQ (k:Nat) (l:List XC) (s:XM×List Int) (ps:List Int):XM×List Int:=ps.foldl (lL k l) s
theorem Al {k:Nat} {l:List XC} {r r':XM} {p:Int} (h:jh k l r p=some r'):∃t:Nat,p= .ofNat (t+1)/\t<l.length/\eM k l r t=(some r',0):=by
 unfold jh at h;cases h1:bR p 1 with
 | true=>rw[h1] at h;cases h
 | false=>
 rw[h1] at h;cases u:bR (.ofNat l.length) p with
 | true=>rw[u] at h;cases h
 | false=>
 rw[u] at h;obtain⟨t,rfl⟩:=pK h1;simp only[cond_false,show(Int.ofNat (t+1)).toNat-1=t from Z] at h;cases z:D (eM k l r t).2 0 with
 | false=>rw[z] at h;cases h
 | true=>
  rw[z] at h;exact⟨t,Z,by have:=br u;omega,Prod.ext h<|s5 z⟩
theorem gu.jh {k:Nat} {l:List XC} {r r':XM} {p:Int} (h:gu k l r) (u:jh k l r p=some r'):gu k l r'/\r'.g.init=r.g.init:=by
 obtain⟨t,_,_,h1⟩:=Al u;exact h.step h1
theorem gu.MH {k:Nat} {l:List XC}:∀{ps:List Int} {s:XM×List Int},gu k l s.1->gu k l (cQ k l s ps).1/\(cQ k l s ps).1.g.init=s.1.g.init
 | [],s,h=>⟨h,Z⟩
 | p::ps,s,h=>by
  show gu k l (cQ k l (lL k l s p) ps).1/\(cQ k l (lL k l s p) ps).1.g.init=s.1.g.init;unfold lL;cases u:Go.Ev.jh k l s.1 p with
  | none=>exact gu.MH h
  | some r=>
   obtain⟨h1,z⟩:=h.jh u;obtain⟨A,h4⟩:=gu.MH (ps:=ps) (s:=(r,s.2++[p])) h1;exact⟨A,by rw[h4,z]⟩
theorem iS {k:Nat} {l:List XC} {s:XM×List Int} {ps:List Int} {i:Nat} {p:Int} (h:ps[i]?=some p):cQ k l s (ps.take (i+1))=lL k l (cQ k l s<|ps.take i) p:=by
 grind [cQ,List.take_add_one]
theorem uM {k:Nat} {l:List XC} {s:XM×List Int} {ps:List Int} {i:Nat} (h:ps.length<=i):cQ k l s (ps.take i)=cQ k l s ps:=by rw[tL_ h]
theorem J.eb {U:I} {K:H} {M L:Own} (h:J U K (M++L)):∃u,H.le K u/\(∀e∈M,u e.1 e.2)/\J U u L:=⟨K.gF M,H.bY _ _,fun e he=>.inr he,h.keeps⟩
theorem Gf {nx:Nat->List Nat} {n:Nat} (u:∀i,i<n->∀to∈nx i,to<n):∀{f:Nat} {s:DS} {out:List Nat},Nj nx n s->wZ nx f s=some out->out.length<=s.out.length+js nx n s
 | 0,_,_,_,h=>by cases h
 | f+1,s,out,hw,h=>by
  unfold wZ at h;cases hl:s.path.getLast? with
  | none=>
   simp_all
  | some a=>
   rw[hl] at h;dsimp only at h;cases z:kK nx s a with
   | none=>rw[z] at h;cases h
   | some s'=>
    rw[z] at h;obtain⟨h1,_,h3⟩:=ou hw u hl z;have:=Gf u h1 h;omega
theorem oG {k:Nat} {c:XC} (hc:eK k c) {out:List Nat} (h:eF c=some out):out.length<=16001:=by
 have:=Gf (rG hc) (uq hc.pos) (show wZ _ _ _=some out from h);rw[Gw] at this;have h1:(yZ c.ins.length).out.length=0:=rfl;have h2:=DL (c:=c);have h3:=hc.len;omega
theorem yE {k:Nat} {c:XC} {s:TS} {x:XI} (hx:c.ins[s.at_]?=some x) (h:(cr k c s).2=true):(cr k c s).1.at_∈cV c s.at_:=by
 obtain⟨P,A⟩:∃P:TS×Bool->Prop,P=fun r=>r.2=true->r.1.at_∈cV c s.at_:=⟨_,Z⟩
 have C:cV c s.at_=(fw x s.at_).map Int.toNat:=by unfold cV;rw[hx]
 have z:∀r:TS×Bool,r.2=false->P r:=fun r h1=>by simp_all
 have u:(D x.kind 10=false)->(D x.kind 12=false)->(D x.kind 13=false)->∀r:TS×Bool,r.1.at_=s.at_+1->P r:=fun h0 h2 h3 r h1=>by
  grind [fw]
 have ne:∀(a b:Int),D x.kind a=true->a≠b->D x.kind b=false:=fun a b h h'=>by
  rw[dE,decide_eq_true_iff] at h;rw[dE,decide_eq_false_iff_not,h];exact h'
 have:P (cr k c s):=by
  unfold cr;rw[hx];dsimp only;unfold dS
  refine iW _ (fun e=>u (ne _ _ e (by decide)) (ne _ _ e (by decide)) (ne _ _ e (by decide)) _ Z) fun e1=>iW _ (fun e=>u (ne _ _ e (by decide)) (ne _ _ e (by decide)) (ne _ _ e (by decide)) _ Z) fun e3=>iW _ (fun e=>u (ne _ _ e (by decide)) (ne _ _ e (by decide)) (ne _ _ e (by decide)) _ Z) fun e7=>
   iW _ (fun e=>fe _ (z _ Z) (u (ne _ _ e (by decide)) (ne _ _ e (by decide)) (ne _ _ e (by decide)) _ Z)) fun e8=>iW _ (fun e=>fe _ (z _ Z) (u (ne _ _ e (by decide)) (ne _ _ e (by decide)) (ne _ _ e (by decide)) _ Z)) fun e9=>
   iW _ (fun e=>?_) fun aa=>iW _ (fun e=>fe _ ?_ (u (ne _ _ e (by decide)) (ne _ _ e (by decide)) (ne _ _ e (by decide)) _ Z)) fun ab=>iW _ (fun _=>z _ Z) fun ac=>iW _ (fun _=>z _ Z) fun ae=>z _ Z
  ·rw[A];intro _;rw[C];unfold fw;rw[e];simp
  grind [fw]
 simp_all
theorem rN {k:Nat} {c:XC} {s:TS}:(cr k c s).1.bc.length=s.bc.length/\(cr k c s).1.events.length<=s.events.length+1:=by
 obtain⟨P,hP⟩:∃P:TS×Bool->Prop,P=fun r=>r.1.bc.length=s.bc.length/\r.1.events.length<=s.events.length+1:=⟨_,Z⟩
 have h0:∀r:TS×Bool,r.1.bc=s.bc->r.1.events=s.events->P r:=fun r h1 u=>by simp_all
 have h1:∀(r:TS×Bool) (e:de),r.1.bc=s.bc->r.1.events=s.events++[e]->P r:=fun r e h1 u=>by simp_all
 have:P (cr k c s):=by
  unfold cr;cases hx:c.ins[s.at_]? with
  | none=>exact h0 _ Z Z
  | some x=>
   dsimp only;unfold dS
   grind
 simp_all
structure Rh (c:XC) (s:TS):Prop where
 at_:s.at_<c.ins.length
 bc:s.bc.length=c.bc.toNat
 events:s.events.length<=1000000
theorem results_none {P:Program} {fn:Func} {t:PT V} {U:I} (u:fn.results.toList= []):fg P fn t U=some (.tuple []):=by
 unfold fg;rw[u];rfl
theorem CA {P:Program} {fn:Func} {R:V->I->Prop} {t:PT V} {U:I} (u:fn.results.toList= []) (z:R (.tuple []) U):AO P fn R .normal t U:=⟨.inl Z,_,results_none u,z⟩
structure wb (c:XC) (out:List Nat) (s:TS):Prop where
 at_:s.at_∈out
 bc:s.bc.length=c.bc.toNat
theorem sY {k:Nat} {c:XC} {s:TS} (h:(cr k c s).2=false):(cr k c s).1.at_=s.at_:=by
 obtain⟨P,hP⟩:∃P:TS×Bool->Prop,P=fun r=>r.2=false->r.1.at_=s.at_:=⟨_,Z⟩
 have hy:∀r:TS×Bool,r.2=true->P r:=fun r h1=>by simp_all
 have u:∀r:TS×Bool,r.1.at_=s.at_->P r:=fun r h1=>by simp_all
 have:P (cr k c s):=by
  unfold cr;cases hx:c.ins[s.at_]? with
  | none=>exact u _ Z
  | some x=>
   dsimp only;unfold dS
   grind
 simp_all
theorem wb.lt {c:XC} {out:List Nat} {s:TS} (h:wb c out s) (u:eN (cV c) c.ins.length out):s.at_<c.ins.length:=u.lt _ h.at_
theorem wb.step {k:Nat} {c:XC} {out:List Nat} {s:TS} (h:wb c out s) (u:eN (cV c) c.ins.length out):wb c out (cr k c s).1:=by
 refine⟨?_,by rw[rN.1];exact h.bc⟩;cases hb:(cr k c s).2 with
 | false=>rw[sY hb];exact h.at_
 | true=>
  obtain⟨x,hx⟩:=cq (h.lt u);obtain⟨q,hq⟩:=gO_ h.at_;obtain⟨q',_,aa⟩:=u.ze q _ hq _ (yE hx hb)
  grind
theorem E0 {k:Nat} {c:XC} {out:List Nat} (u:eN (cV c) c.ins.length out):∀{f:Nat} {s:TS},wb c out s->wb c out (vX k c f s)/\(vX k c f s).events.length<=s.events.length+f
 | 0,s,h=>⟨h,nR_ _⟩
 | f+1,s,h=>by
  have h1:=h.step (k:=k) u;have h2:=(rN (k:=k) (c:=c) (s:=s)).2;obtain⟨h3,h4⟩:=E0 (k:=k) u (f:=f) h1;show wb c out (bif (cr k c s).2 then vX k c f (cr k c s).1 else(cr k c s).1)/\(bif (cr k c s).2 then vX k c f (cr k c s).1 else(cr k c s).1).events.length<=_
  grind
theorem tu {k:Nat} {c:XC} {j:Nat} {s:TS} (hj:1<=j) (h:(cr k c s).2=true):vX k c j s=vX k c (j-1) (cr k c s).1:=by
 obtain⟨i,rfl⟩:∃i,j=i+1:=⟨j-1,by omega⟩;show(bif (cr k c s).2 then _ else _)=_;rw[h];rfl
theorem xA {k:Nat} {c:XC} {j:Nat} {s:TS} (hj:1<=j) (h:(cr k c s).2=false):vX k c j s=(cr k c s).1:=by
 obtain⟨i,rfl⟩:∃i,j=i+1:=⟨j-1,by omega⟩;show(bif (cr k c s).2 then _ else _)=_;rw[h];rfl
theorem oI {k:Nat} {c:XC} {out:List Nat} {s:TS} {x:XI} {q:Nat} (u:eN (cV c) c.ins.length out) (hx:c.ins[s.at_]?=some x) (hq:out[q]?=some s.at_) (h:(cr k c s).2=true):∃q',q'<q/\out[q']?=some (cr k c s).1.at_:=u.ze q _ hq _ (yE hx h)
def ij (c:XC):TS:=⟨0,List.replicate c.bc.toNat 0,[],0,0,false⟩
theorem yD {c:XC} {out:List Nat} (u:eN (cV c) c.ins.length out):wb c out (ij c):=⟨u.zero,List.length_replicate ..⟩
theorem Hn {k:Nat} {c:XC} {out:List Nat} (z:eF c=some out) (u:eN (cV c) c.ins.length out):wb c out (ke k c)/\(ke k c).events.length<=out.length:=by
 obtain⟨h1,A⟩:=E0 (k:=k) u (f:=jP c) (yD u);have:jP c=out.length:=by unfold jP;rw[z];rfl
 refine⟨h1,?_⟩;have C:(ij c).events.length=0:=rfl;rw[C,this] at A;show(vX k c (jP c)<|ij c).events.length<=_;rw[this];omega
theorem qg {k:Nat} {c:XC} (hc:eK k c) {out:List Nat} (z:eN (cV c) c.ins.length out) {s:TS} (h:wb c out s) (A:lV c s) (C:s.asks=true) (v:Int):wb c out (eH k c s v):=by
 refine⟨?_,by show(s.bc.set _ _).length=_;rw[List.length_set];exact h.bc⟩;obtain⟨x,hx,hk⟩:=A C;obtain⟨q,hq⟩:=gO_ h.at_
 have:s.at_+1∈cV c s.at_:=by
  unfold cV;rw[hx];dsimp only;unfold fw;rcases hk with hk | hk | hk | hk<;>rw[hk]<;>show s.at_+1∈[s.at_+1]<;>simp
 obtain⟨q',_,u⟩:=z.ze q _ hq _ this;exact gB_ u
theorem Ek {k:Nat} {c:XC} (hc:eK k c) {out:List Nat} (z:eF c=some out) (u:eN (cV c) c.ins.length out) {s:TS} (h:wb c out s) (A:lV c s) (C:s.asks=true) (v:Int):
  wb c out (ez k c s v)/\(ez k c s v).events.length<=s.events.length+1+out.length/\(ez k c s v).asked=s.asked+1:=by
 obtain⟨h1,h2⟩:=E0 (k:=k) u (f:=jP c) (qg hc u h A C v);have hf:jP c=out.length:=by unfold jP;rw[z];rfl
 refine⟨h1,?_,(oB k c (jP c)<|eH k c s v).2⟩
 grind [eH,ez]
theorem jS {es:List de} {i:Nat} {e:de} (h:es[i]?=some e):dj (es.take (i+1))=dj (es.take i)++(bif dR e then [e.read] else []):=by
 grind [List.take_add_one,dj]
theorem mH (es:List de):(dj es).length<=es.length:=by grind [dj]
theorem Ky {k:Nat} {c:XC} {A:List Int} {i:Nat} {v:Int} {s:TS} (h:A[i]?=some v) (u:s.asks=true):kI k c (A.drop i) s=kI k c (A.drop (i+1)) (ez k c s v):=by
 rw[cO h];show(bif s.asks then _ else _)=_;rw[u];rfl
theorem MN {k:Nat} {c:XC} {A:List Int} {i:Nat} {v:Int} {s:TS} (h:A[i]?=some v) (u:s.asks=false):kI k c (A.drop i) s=s:=by
 rw[cO h];show(bif s.asks then _ else _)=_;rw[u];rfl
theorem Kw {k:Nat} {c:XC} {A:List Int} {i:Nat} {s:TS} (h:A.length<=i):kI k c (A.drop i) s=s:=by rw[ff h];rfl
def z6 (n:jk):List V:=ints n.event.ints++ints n.ask.ints++[.int .i64 n.fin]
def p8 (m:List Int) (x0 x1 x2 x3 x4 x5:Int):Prop:=[x0,x1,x2,x3,x4,x5]=m++List.replicate (6-m.length) 0
abbrev c6 (x0 x1 x2 x3 x4 x5:Int) (a b c d:V):List V:=[.int .i64 x0,.int .i64 x1,.int .i64 x2,.int .i64 x3,.int .i64 x4,.int .i64 x5,a,b,c,d]
abbrev BX:List V:=[.int .i64 0,.int .i64 0,.int .i64 0,.int .i64 0,.int .i64 0,.int .i64 0,.au,.au,.au,.au]
theorem p8.le {m:List Int} {u z A C E F:Int} (h:p8 m u z A C E F):m.length<=6:=by
 have:=congrArg List.length h;rw[lA_,List.length_replicate] at this;have e: [u,z,A,C,E,F].length=6:=rfl;omega
theorem p8.at_ {m:List Int} {u z A C E F:Int} (h:p8 m u z A C E F) {a b c d:V} {ln:Nat} (hl:ln<m.length):∃y,m[ln]?=some y/\nth (c6 u z A C E F a b c d) (0+ln*1)=some (.int .i64 y):=by
 have h6:=h.le;obtain⟨y,hy⟩:=cq hl;have: [u,z,A,C,E,F][ln]?=some y:=by rw[show [u,z,A,C,E,F]=_ from h,gL_ hl];exact hy
 refine⟨y,hy,?_⟩;rw[eL,Nat.mul_one,nA_]
 grind
theorem p8.set {m:List Int} {u z A C E F:Int} (h:p8 m u z A C E F) {a b c d:V} {ln:Nat} (hl:ln<m.length) (v:Int):∃L M Q R W y5,dI [.int .i64 v] (c6 u z A C E F a b c d) (0+ln*1)=c6 L M Q R W y5 a b c d/\p8 (m.set ln v) L M Q R W y5:=by
 have h6:=h.le;have G: [u,z,A,C,E,F].set ln v=m.set ln v++List.replicate (6-(m.set ln v).length) 0:=by rw[show [u,z,A,C,E,F]=_ from h,List.set_append_left _ _ hl,List.length_set]
 have K:ln<6:=by omega
 match ln,K with
 | 0,_=>exact⟨v,z,A,C,E,F,Z,G⟩
 | 1,_=>exact⟨u,v,A,C,E,F,Z,G⟩
 | 2,_=>exact⟨u,z,v,C,E,F,Z,G⟩
 | 3,_=>exact⟨u,z,A,v,E,F,Z,G⟩
 | 4,_=>exact⟨u,z,A,C,v,F,Z,G⟩
 | 5,_=>exact⟨u,z,A,C,E,v,Z,G⟩
theorem mE {α:Type} {K:H} {m b e n:Nat} {R:α->List V->Prop} (h:K b (.row (List.replicate n .au) e false)) (hn:n<=1000000):bJ K 1 (RL K m R) (List.replicate n []) (.slice b 0 n (.known n)):=by
 refine .inr ⟨b,0,_,_,e,false,by rw[List.length_replicate],.inr ⟨_,Z,by simp_all⟩,h,by simp,by grind,fun i x hx=>?_⟩;have hi:i<n:=by grind
 have hx':=eR_ (gB_ hx);subst hx';refine⟨.au,?_,.inl ⟨Z,Z⟩⟩
 grind
theorem ld {k:Nat} {l:List XC} {r:XM} {t:Nat} {c:XC} {row:List de} (h1:l[t]?=some c) (u:r.g.threads[t]?=some row) {e:Int} (h:kh k c row r.g=e) (he:D e 0=false):eM k l r t=(none,e):=by
 unfold eM;rw[h1,u];dsimp only;rw[h,he];rfl
theorem oO {k:Nat} {l:List XC} {r:XM} {t:Nat} {c:XC} {row:List de} (h1:l[t]?=some c) (u:r.g.threads[t]?=some row) (h:kh k c row r.g=0) {p:yV} (hp:fL (bM k c row).1 r.mem r.g=p):eM k l r t=yT p (.ofNat (t+1)) r.g:=by
 unfold eM;rw[h1,u];dsimp only;rw[h,hp];rfl
end Go.Ev
namespace Go.Ev
variable [Env]
theorem jK {P:Program} {ev:Operand->Option V} {t e w n:Nat} {k k':IntKind} {z:List V} {lo co:Operand} (A:P.underlying t=some (.slice e)) (hw:(P.info? e).map (·.bytes)=some w) (C:(fJ P e).bind cW=some z)
  (u:((P.info? e).any fun j=>Nat.beq (cY z) j.size && Nat.ble 1 j.size)=true) (hl:ev lo=some (.int k (.ofNat n))) (hc:ev co=some (.int k' (.ofNat n))) (hn:w*n<=1048576) (aa:n<=1048576):
  fO P ev (.makeSlice t lo co)=some (.row (fq z n) e false,.slice n n):=by
 obtain⟨j,hj,rfl⟩:=oM_.1 hw;rw[hj] at u;simp only[Option.any_some,bA_] at u;simp only[fO,A,hl,hc,hj,C];rw[u.1,u.2,show Nat.ble n n=true by simp_all,show Nat.ble (j.bytes*n) 1048576=true by simp_all,show Nat.ble n 1048576=true by simp_all];rfl
theorem kC {P:Program} {G:Cx} {t:PT V} {U:I} {ops:Array Oper} {o:Oper} {i k b e n:Nat} {cs:List V} (hi:ops[i]?=some o) (hw:bS ops t o=some true) (hd:o.dst=some k) (hg:t.get k=some (.slice b 0 n (.known n))) (hk:kindOf P o.op= .alloc) (ha:fO P (bI G t) o.op=some (.row cs e false,.slice n n)) (hm:U.m.get b=some (.row cs e false)) (hb:dZ.beqL cs cs=true):jJ P G ops t U i=true:=by
 unfold jJ
 simp_all
theorem oq (n:Nat):dZ.beqL (List.replicate n V.au) (List.replicate n V.au)=true:=by
 induction n with
 | zero=>rfl
 | succ n ih=>rw[List.replicate_succ];exact bK Z ih
theorem gk.leaf:∀x vs,gk x vs->cF vs=true:=fun _ _ h=>by cases h;rfl
theorem oz {α β:Type} {f:α->List β} {l:List α} {i:Nat} {x:α} (h:l[i]?=some x):((l.take (i+1)).map f).flatten=((l.take i).map f).flatten++f x:=by
 rw[List.take_add_one,h];simp
theorem xr {α β:Type} {f:α->List β} {g:α->Nat}:∀(l:List α),(∀x∈l,(f x).length<=g x)->(l.map f).flatten.length<=(l.map g).sum
 | [],_=>nR_ _
 | x::l,h=>by
  have:=xr (f:=f) l (fun y hy=>h y (mC_ _ hy))
  grind
theorem qO:∀(k:Nat) (x:XE),(gf k x).length<=db k x
 | 0,_=>nR_ _
 | k+1,.mk op num name kids=>by
  show((bif (bif D op 2 then bd (gY name []) else false) then [name] else [])++(kids.map<|gf k).flatten).length<=(kids.map<|db k).sum+1
  have h1:(bif (bif D op 2 then bd (gY name []) else false) then [name] else []).length<=1:=by
   cases (bif D op 2 then bd (gY name []) else false)<;>simp
  have h2:=xr (f:=gf k) (g:=db k) kids (fun x _=>qO k x);rw[lA_];omega
theorem uO {k:Nat} {op num:Int} {name:List Nat} {kids:List XE} {i:Nat} {x:XE} (h:kids[i]?=some x):((bif (bif D op 2 then bd (gY name []) else false) then [name] else [])++((kids.take i).map<|gf k).flatten).length+(gf k x).length<=db (k+1) (.mk op num name kids):=by
 have h1:(bif (bif D op 2 then bd (gY name []) else false) then [name] else []).length<=1:=by
  grind
 have h2:=xr (f:=gf k) (g:=db k) (kids.take i) (fun x _=>qO k x);have h3:=qO k x;have h4:=tS (f:=db k) h
 grind [FI,db]
theorem cN.iC {α:Type} {m E:Nat} {R:α->List V->Prop} {l:List α} {u:V} {M:Own} {K:H} (h:cN m E R l u M):bJ (K.gF M) m R l u:=h.iB fun _ he=>.inr he
theorem cN.zW {α:Type} {m E:Nat} {R R':α->List V->Prop} {l:List α} {u:V} {M:Own} (h:cN m E R l u M) (z:∀x vs,R x vs->R' x vs):cN m E R' l u M:=by
 rcases h with h | ⟨b,c,cells,e,h1,A,C,h4,h5⟩
 ·exact .inl h
 exact .inr ⟨b,c,cells,e,h1,A,C,fun i x hx=>z x _ (h4 i x hx),h5⟩
theorem eE.leaf {K:H} {k:Nat}:∀x vs,eE K k x vs->cF vs=true:=fun x vs h=>by
 obtain⟨o,n,s,v,rfl,hk⟩:=h.shape;exact N Z<|N Z<|N Z<|N hk.leaf.2 aA
theorem cN.empty {α:Type} {m E b e:Nat} {R:α->List V->Prop}:cN m E R ([]:List α) (.slice b 0 0 (.known 0)) [(b,.row [] e false)]:=.inr ⟨b,.known 0,[],e,Z,Z,by simp,fun i x h=>by simp at h,.inl Z,by simp⟩
theorem cN.nil {α:Type} {m E:Nat} {R:α->List V->Prop}:cN m E R ([]:List α) .au []:=.inl ⟨Z,Z,Z⟩
theorem H.add_get (K:H) (b:Nat) (o:cM):K.add b o b o:=.inr ⟨Z,Z⟩
theorem CY {U:I} {K:H} {L:Own} {b e:Nat} {vs:List V} (aq:J U K ((b,.row vs e false)::L)):∃u,H.le K u/\u b (.row vs e false)/\J U u L:=⟨_,H.sO _ _ _,H.add_get _ _ _,aq.iC⟩
def MP (v:V):List V:=[.int .i64 0,.str [],.str [],.int .i64 0,v,.au,.au]
def PM (v:V) (_:Unit) (vs:List V):Prop:=vs=MP v
theorem MQ {P:Program} {k:Bool} {t:TypeId} {s:List Nat} {n:Nat} (h:iT s=some n):vV P k .add t (.str [114]) (.str s)=some (.str (114::s)):=by
 obtain⟨_,h4,_⟩:=yj h;show(bif Nat.ble (cY [114]+cY s) 1152921504606846976 then some (V.str<|im [114] s) else none)=_;rw[bP,bP,show Nat.ble ([114].length+s.length) 1152921504606846976=true by rw[nE_];grind];rfl
theorem GF {s:List Nat} (h:(bif bR (j0 s) 0 then false else true)=true):∃n,iT s=some n:=by
 unfold j0 at h;cases u:iT s with
 | none=>rw[u] at h;cases h
 | some n=>exact⟨n,Z⟩
theorem Mz {s:List Nat} (h:(bif bR (j0 s) 0 then false else true)=false):iT s=none:=by
 grind [j0,vY]
theorem pb {P:Program} {ev:Operand->Option V} {t e:TypeId} {len m:Nat} {parts:Array (Nat×Operand)} {z cs:List V} (A:P.underlying t=some (.slice e)) (hj:(P.info? e).map (·.size)=some m) (C:(fJ P e).bind cW=some z)
  (hb:(Nat.beq (cY z) m && Nat.ble (len*m) 16777216 && Nat.ble 1 m)=true) (hf:kL (fun i=>some (i*m,m)) ev parts.toList (fq z len)=some cs):fO P ev (.buildSlice t len parts)=some (.row cs e false,.slice len len):=by
 obtain⟨j,u,rfl⟩:=oM_.1 hj;simp only[fO,A,u,C,hb,cond_true,hf]
theorem H6 {α:Type} {l o:List α} {i k:Nat} {x y:α} (hm:∀s,s∈o↔s∈l.take i) (h1:o[k]?=some y) (h2:l[i]?=some x) (e:y=x):∀s,s∈o↔s∈l.take (i+1):=fun s=>by
 grind [List.take_add_one]
theorem GD {α:Type} {l o:List α} {i k:Nat} {x:α} (hm:∀s,s∈o↔s∈l.take i) (h2:l[i]?=some x):∀s,s∈(([]++o.take k)++[x])++o.drop k↔s∈l.take (i+1):=fun s=>by
 grind [List.take_add_one,List.take_append_drop]
theorem Gx {α:Type} {o:List α} {k i:Nat} {x:α} (h:o.length<=i) (hk:k<=o.length):((([]++o.take k)++[x])++o.drop k).length<=i+1:=by
 grind
end Go.Ev
namespace Go.Ev
variable [Env]
open Go.Proofs
set_option maxRecDepth 4000
set_option maxHeartbeats 8000000
theorem LV {G:Cx} (hG:Plain G) {K:H}:∀(k:Nat) (x:XE) (vs:List V),eE K k x vs->db k x<=1000000->∀(U:I) (L:Own),J U K L->bm Tryz.prog G 286 [.agg vs] U fun v U'=>∃K1,H.le K K1/\bJ K1 1 gk (gf k x) v/\J U' K1 L:=by
 intro k;induction k with
 | zero=>intro x vs h;cases x;exact h.elim
 | succ k ih=>
 intro x vs hE hS U L aq;obtain⟨op,num,name,kids⟩:=x;obtain⟨v,rfl,hk⟩:=hE;have hS:(kids.map<|db k).sum+1<=1000000:=hS;refine QX hG Tryz.func286 Z<|QA 2 Z<|kp aq Z (cA Z Z) (fun U b1 aq=>?_);refine Pz aq 14 [0,0] Z Z<|ky Z (an Z) (fun h8=>?_) (fun h8=>?_)
 ·refine QJ aq 6 [2,0] Z Z<|aD Z (fun aK=>?_) (fun aK=>?_)
  ·refine Q6 aq 4 [2,0] Z Z<|gD aq Z (bW (e:=9) (m:=1) (z:=[.str []]) (cs:=[_]) Y Y Y Y<|bA Z Z Z Z bH) (fun _=>Z) (fun U b2 aq=>?_);refine sT (R:=gk) (m:=1) (e:=9) cN.nil (show J _ _ (_::([]++_)) from aq) (eJ (m:=1) Z Z) gk.leaf (by simp) Z Z Z Z Z Z Z (fun _=>Z) (fun U a9 a8 hO17 aq=>?_);refine Pv 10 Z (bp ([3,4]++rg 18 15) (fun j t U=>∃(i:Nat) (u:V) (M:Own),j+i=kids.length/\cN 1 9 gk ((bif (bif D op 2 then bd (gY name []) else false) then [name] else [])++((kids.take i).map<|gf k).flatten) u M/\t.get 3=some (u)/\t.get 4=some (.int .i64 (.ofNat i))/\J U K (M++(b1,.row [.int .i64 op,.int .i64 num,.str name,v] 82 false)::L)) (kids.length) ⟨0,_,a8,Z,by rw[show(bif (bif D op 2 then bd (gY name []) else false) then [name] else [])= [name] from by unfold bd;simp only[h8,show(bif gY name [] then false else true)=true from aK,ct,cf]<;>rfl];simpa using hO17,Z,Z,aq⟩ ?_);clear aq;intro j5 t U ar hI;obtain⟨i,u,M,hj,X,aa,ab,aq⟩:=hI;obtain⟨oo,rfl⟩:=ar.q2 aa ab Z;refine P7 aq 5 [3] Z Z<|O Z (RE Z aq.aR.g0 Z) Z<|O Z (RG hk Z Z Z (e:=82) Z) Z<|QC 3 Z<|aD Z (fun F=>?_) (fun F=>?_)
   ·refine Pt 4 Z<|Q6 aq 3 [3] Z Z<|O Z (RE Z aq.aR.g0 Z) Z<|vQ 1 Z ?_;obtain⟨a0,A,ae⟩:=cE F;refine Rx (e:=82) (m:=4) hk A Z Z Z Z (fun a1 am W ao C=>?_);obtain⟨a2,a3,a4,a5,rfl,ap⟩:=C.shape;refine O Z (RJ aq W Z Z) Z ?_;have hz:=uO (k:=k) (op:=op) (num:=num) (name:=name) A;refine cd Z (RC Z Z Z) (fun _=>Z) (ih _ _ C (Nat.le_trans (my (f:=db k) A) B) _ _ aq) ?_;rintro a6 U ⟨a7,Q,hS31,aq⟩;refine uH (R:=gk) (m:=1) (e:=9) X aq hS31 gk.leaf (by have e:db (k+1) (.mk op num name kids)=(kids.map<|db k).sum+1:=rfl;omega) Z Z Z Z Z Z Z (fun _=>Z) (fun U u32 ac hO32 aq=>?_);replace aq:=aq.weaken Q;refine Q2 2 Z<|aI<|Q0 5 Z<|aM ⟨j5-1,by omega,oF,i+1,u32,ac,by omega,by rw[oz A,<-lQ_];exact hO32,Z,cI<|bg (by have:=hk.bG;omega),aq⟩
   refine PY 3 Z<|aU<|Q1 7 Z ?_;exact aB Z Z ⟨K.gF M,H.bY _ _,by rw[tL_<|br F] at X;exact X.iC,aq.keeps.pop⟩
  refine Pu 5 Z ?_;replace aq:J U K ([]++_):=aq;refine PZ 4 Z (bp ([3,4]++rg 18 15) (fun j t U=>∃(i:Nat) (u:V) (M:Own),j+i=kids.length/\cN 1 9 gk ((bif (bif D op 2 then bd (gY name []) else false) then [name] else [])++((kids.take i).map<|gf k).flatten) u M/\t.get 3=some (u)/\t.get 4=some (.int .i64 (.ofNat i))/\J U K (M++(b1,.row [.int .i64 op,.int .i64 num,.str name,v] 82 false)::L)) (kids.length) ⟨0,_,[],Z,by rw[show(bif (bif D op 2 then bd (gY name []) else false) then [name] else [])= [] from by unfold bd;simp only[h8,show(bif gY name [] then false else true)=false from aK,ct,cf]<;>rfl];simpa using (cN.nil (m:=1) (E:=9) (R:=gk)),Z,Z,aq⟩ ?_);clear aq;intro j5 t U ar hI;obtain⟨i,u,M,hj,X,aa,ab,aq⟩:=hI;obtain⟨oo,rfl⟩:=ar.q2 aa ab Z;refine P7 aq 5 [3] Z Z<|O Z (RE Z aq.aR.g0 Z) Z<|O Z (RG hk Z Z Z (e:=82) Z) Z<|QC 3 Z<|aD Z (fun F=>?_) (fun F=>?_)
  ·refine Pt 4 Z<|Q6 aq 3 [3] Z Z<|O Z (RE Z aq.aR.g0 Z) Z<|vQ 1 Z ?_;obtain⟨a0,A,ae⟩:=cE F;refine Rx (e:=82) (m:=4) hk A Z Z Z Z (fun a1 am W ao C=>?_);obtain⟨a2,a3,a4,a5,rfl,ap⟩:=C.shape;refine O Z (RJ aq W Z Z) Z ?_;have hz:=uO (k:=k) (op:=op) (num:=num) (name:=name) A;refine cd Z (RC Z Z Z) (fun _=>Z) (ih _ _ C (Nat.le_trans (my (f:=db k) A) B) _ _ aq) ?_;rintro a6 U ⟨a7,Q,hS31,aq⟩;refine uH (R:=gk) (m:=1) (e:=9) X aq hS31 gk.leaf (by have e:db (k+1) (.mk op num name kids)=(kids.map<|db k).sum+1:=rfl;omega) Z Z Z Z Z Z Z (fun _=>Z) (fun U u32 ac hO32 aq=>?_);replace aq:=aq.weaken Q;refine Q2 2 Z<|aI<|Q0 5 Z<|aM ⟨j5-1,by omega,oF,i+1,u32,ac,by omega,by rw[oz A,<-lQ_];exact hO32,Z,cI<|bg (by have:=hk.bG;omega),aq⟩
  refine PY 3 Z<|aU<|Q1 7 Z ?_;exact aB Z Z ⟨K.gF M,H.bY _ _,by rw[tL_<|br F] at X;exact X.iC,aq.keeps.pop⟩
 refine QC 7 Z<|Pu 5 Z ?_;replace aq:J U K ([]++_):=aq;refine PZ 4 Z (bp ([3,4]++rg 18 15) (fun j t U=>∃(i:Nat) (u:V) (M:Own),j+i=kids.length/\cN 1 9 gk ((bif (bif D op 2 then bd (gY name []) else false) then [name] else [])++((kids.take i).map<|gf k).flatten) u M/\t.get 3=some (u)/\t.get 4=some (.int .i64 (.ofNat i))/\J U K (M++(b1,.row [.int .i64 op,.int .i64 num,.str name,v] 82 false)::L)) (kids.length) ⟨0,_,[],Z,by rw[show(bif (bif D op 2 then bd (gY name []) else false) then [name] else [])= [] from by unfold bd;simp only[h8,ct,cf]<;>rfl];simpa using (cN.nil (m:=1) (E:=9) (R:=gk)),Z,Z,aq⟩ ?_);clear aq;intro j5 t U ar hI;obtain⟨i,u,M,hj,X,aa,ab,aq⟩:=hI;obtain⟨oo,rfl⟩:=ar.q2 aa ab Z;refine P7 aq 5 [3] Z Z<|O Z (RE Z aq.aR.g0 Z) Z<|O Z (RG hk Z Z Z (e:=82) Z) Z<|QC 3 Z<|aD Z (fun F=>?_) (fun F=>?_)
 ·refine Pt 4 Z<|Q6 aq 3 [3] Z Z<|O Z (RE Z aq.aR.g0 Z) Z<|vQ 1 Z ?_;obtain⟨a0,A,ae⟩:=cE F;refine Rx (e:=82) (m:=4) hk A Z Z Z Z (fun a1 am W ao C=>?_);obtain⟨a2,a3,a4,a5,rfl,ap⟩:=C.shape;refine O Z (RJ aq W Z Z) Z ?_;have hz:=uO (k:=k) (op:=op) (num:=num) (name:=name) A;refine cd Z (RC Z Z Z) (fun _=>Z) (ih _ _ C (Nat.le_trans (my (f:=db k) A) B) _ _ aq) ?_;rintro a6 U ⟨a7,Q,hS31,aq⟩;refine uH (R:=gk) (m:=1) (e:=9) X aq hS31 gk.leaf (by have e:db (k+1) (.mk op num name kids)=(kids.map<|db k).sum+1:=rfl;omega) Z Z Z Z Z Z Z (fun _=>Z) (fun U u32 ac hO32 aq=>?_);replace aq:=aq.weaken Q;refine Q2 2 Z<|aI<|Q0 5 Z<|aM ⟨j5-1,by omega,oF,i+1,u32,ac,by omega,by rw[oz A,<-lQ_];exact hO32,Z,cI<|bg (by have:=hk.bG;omega),aq⟩
 refine PY 3 Z<|aU<|Q1 7 Z ?_;exact aB Z Z ⟨K.gF M,H.bY _ _,by rw[tL_<|br F] at X;exact X.iC,aq.keeps.pop⟩
theorem GG {α β:Type} {f:α->List β} {x:α} {i:Nat}:(([x].take i).map f).flatten.length<=(f x).length:=by
 cases i with
 | zero=>simp
 | succ i=>simp
theorem ru {α β:Type} {f:α->List β} {l:List α} {i:Nat} (h:i=0):((l.take i).map f).flatten= []:=by subst h;simp
theorem Oj {α:Type} {x y:α} {i:Nat} (h: [x][i]?=some y):x=y:=by
 cases i with
 | zero=>simpa using h
 | succ i=>simp at h
theorem Cu {G:Cx} (C:Plain G) {K:H} {U:I} {L:Own} (aq:J U K L):bm Tryz.prog G 277 [.au] U fun v U'=>v= .au/\J U' K L:=by
 have h0:bJ K 7 (PM .au) [] .au:=.inl ⟨Z,Z⟩;refine QX C Tryz.func277 Z<|PU 17 Z ?_;obtain⟨LL1,aq,hLL1⟩:=aq.named;refine bp (rg 3 59) (fun j t U=>t.get 3=some (.au)/\t.get 4=some (.int .i64 (.ofNat 0))/\J U K LL1) (0) ⟨Z,Z,aq⟩ ?_;clear aq;intro j3 t U ar E;obtain⟨u,z,aq⟩:=E;subst hLL1;obtain⟨oo,rfl⟩:=ar.q2 u z Z;refine PV 5 Z<|O Z (RG h0 Z Z Z (e:=304) Z) Z<|QC 3 Z<|aD Z (fun A=>?_) (fun A=>?_)
 ·exact absurd (bk A) (by simp)
 refine PY 3 Z<|aU<|Q1 7 Z ?_;exact aB Z Z ⟨Z,aq⟩
theorem Jc {G:Cx} (hG:Plain G) {K:H} {k:Nat} {x:XE} {ev v:V} (h:bJ K 7 (PM ev) [()] v) (he:bJ K 4 (eE K k) [x] ev) (hS:db k x<=1000000) {U:I} {L:Own} (aq:J U K L):bm Tryz.prog G 277 [v] U fun v U'=>∃K1,H.le K K1/\bJ K1 1 gk (gf k x) v/\J U' K1 L:=by
 have ab:bJ K 1 gk [] .au:=.inl ⟨Z,Z⟩;have hrl:=qO k x;refine QX hG Tryz.func277 Z<|PU 17 Z<|bp (rg 3 59) (fun j t U=>∃(i:Nat) (u:V) (M:Own),j+i=1/\cN 1 9 gk (([()].take i).map fun _=>gf k x).flatten u M/\t.get 3=some (u)/\t.get 4=some (.int .i64 (.ofNat i))/\J U K (M++L)) (1) ⟨0,_,[],Z,cN.nil,Z,Z,aq⟩ ?_;clear aq;intro j3 t U ar hI;obtain⟨i,u,M,hj,hO,ae,bi,aq⟩:=hI;obtain⟨oo,rfl⟩:=ar.q2 ae bi Z;refine PV 5 Z<|O Z (RG h Z Z Z (e:=304) Z) Z<|QC 3 Z<|aD Z (fun h9=>?_) (fun h9=>?_)
 ·refine OR 5 Z<|QA 4 Z ?_;obtain⟨b8,z,bw⟩:=cE h9;refine Rx (e:=304) (m:=7) h z Z Z Z Z (fun b9 ao ap bz C=>?_);replace C:ao= [T,.str [],.str [],T,ev,.au,.au]:=C;subst C;refine bZ ap Z Z Z (k:=1) Y (lb Z) (fun _=>Z) (fun ca aK=>?_);refine O Z (RI aq aK Z Z) Z<|QC 3 Z<|aD Z (fun a0=>absurd (show false=true from a0) (by decide)) (fun a0=>?_);refine Pt 9 Z<|bp ([3,5]++rg 26 21) (fun j t U=>∃(i2:Nat) (u2:V) (M2:Own),j+i2=1/\cN 1 9 gk ((([()].take i).map fun _=>gf k x).flatten++(([x].take i2).map<|gf k).flatten) u2 M2/\t.get 3=some (u2)/\t.get 5=some (.int .i64 (.ofNat i2))/\J U K (M2++L)) (1) ⟨0,_,M,Z,by simpa using hO,Z,Z,aq⟩ ?_;clear aq;intro j8 t U ar hI;obtain⟨i2,u2,M2,cb,hO2,ae,bl,aq⟩:=hI;obtain⟨oo,rfl⟩:=ar.q2 ae bl Z;refine PV 6 Z<|Rx (e:=304) (m:=7) h z Z Z Z Z (fun cc a1 a2 b0 E=>?_);replace E:a1= [T,.str [],.str [],T,ev,.au,.au]:=E;subst E;refine bZ a2 Z Z Z (k:=4) Y (lb Z) (fun _=>Z) (fun ce a3=>?_);refine O Z (RI aq a3 Z Z) Z<|O Z (RG he Z Z Z (e:=82) Z) Z<|QC 3 Z<|aD Z (fun A=>?_) (fun A=>?_)
  ·refine Pt 4 Z<|ai Z<|Q3 3 Z<|Rx (e:=304) (m:=7) h z Z Z Z Z (fun ch a4 a5 b1 F=>?_);replace F:a4= [T,.str [],.str [],T,ev,.au,.au]:=F;subst F;refine bZ a5 Z Z Z (k:=4) Y (lb Z) (fun _=>Z) (fun ci a6=>?_);refine O Z (RI aq a6 Z Z) Z<|vQ 1 Z ?_;obtain⟨ck,Q,b2⟩:=cE A;refine Rx (e:=82) (m:=4) he Q Z Z Z Z (fun cl b3 a7 b4 ac=>?_);obtain⟨cn,co,cp,cs,rfl,b5⟩:=ac.shape;refine O Z (RJ aq a7 Z Z) Z ?_;obtain rfl:=Oj Q;refine cd Z (RC Z Z Z) (fun _=>Z) (LV hG _ _ _ ac hS _ _ aq) ?_;rintro cv U ⟨cx,am,hS45,aq⟩;refine uH (R:=gk) (m:=1) (e:=9) hO2 aq hS45 gk.leaf (by have e1:(([()].take i).map fun _=>gf k x).flatten= []:=ru (by have:=bk h9;simpa using this);have e2:(([x].take i2).map<|gf k).flatten= []:=ru (by have:=bk A;simpa using this);rw[e1,e2];simp;omega) Z Z Z Z Z Z Z (fun _=>Z) (fun U bo bs hO46 aq=>?_);replace aq:=aq.weaken am;refine Q2 2 Z<|aI<|Q0 5 Z<|aM ⟨j8-1,(by have:=bk A;simp at this;omega),oF,i2+1,bo,bs,(by have:=bk A;simp at this;omega),(by rw[oz Q,<-lQ_];exact hO46),Z,cI<|bg B,aq⟩
  refine PY 3 Z (aU (ad (aS (l:=[(0,[]),(1,[]),(2,[]),(3,[]),(4,[]),(5,[]),(8,[]),(9,[]),(10,[]),(11,[]),(12,[]),(6,[12]),(7,[12]),(13,[]),(14,[]),(15,[])]) Y Y<|Q5 3 Z<|Ry (e:=304) (m:=7) h z Z Z Z Z Z (fun c0 a8 a9 b6 W=>?_))));replace W:a8= [T,.str [],.str [],T,ev,.au,.au]:=W;subst W;refine ku a9 Z Z Z Z (k:=5) Y (lb Z) (fun _=>Z) (fun c1 bb=>?_);refine al Z Z (RI aq bb Z Z) Z<|Q5 2 Z<|Ry (e:=304) (m:=7) h z Z Z Z Z Z (fun c2 bc be b7 X=>?_);replace X:bc= [T,.str [],.str [],T,ev,.au,.au]:=X;subst X;refine ku be Z Z Z Z (k:=6) Y (lb Z) (fun _=>Z) (fun c3 aa=>?_);refine al Z Z (RI aq aa Z Z) Z<|cy Z Z (RC Z Z Z) (fun _=>Z) (Cu hG aq) (fun U aq=>?_);refine⟨(bx (bO Z Z Z Z Z (RI aq aa Z Z) Z) aT),?_⟩;refine jH (R:=gk) (m:=1) (e:=9) hO2 aq ab gk.leaf (by have h1:(([x].take i2).map<|gf k).flatten.length<=(gf k x).length:=GG;have e1:(([()].take i).map fun _=>gf k x).flatten= []:=ru (by have:=bk h9;simpa using this);rw[e1,List.nil_append];show _+0<=_;omega) Z Z Z Z Z Z Z Z (fun _=>Z) (fun U c4 c5 hO54 aq=>?_);refine⟨(bx (bO Z Z Z Z Z (RI aq aa Z Z) Z) aT),?_⟩;refine cy Z Z (RC Z Z Z) (fun _=>Z) (Cu hG aq) (fun U aq=>?_);refine⟨aT,?_⟩;refine jH (R:=gk) (m:=1) (e:=9) hO54 aq ab gk.leaf (by have h1:(([x].take i2).map<|gf k).flatten.length<=(gf k x).length:=GG;have e1:(([()].take i).map fun _=>gf k x).flatten= []:=ru (by have:=bk h9;simpa using this);rw[List.append_nil,e1,List.nil_append];show _+0<=_;omega) Z Z Z Z Z Z Z Z (fun _=>Z) (fun U bt bv hO61 aq=>?_);refine⟨aT,?_⟩;refine Q4 2 Z (aI (Q0 5 Z (aM ⟨j3-1,(by have:=bk h9;simp at this;omega),oF,i+1,bt,bv,(by have:=bk h9;simp at this;omega),(by rw[oz z];have e3: [x].take i2= [x]:=tL_ (br A);rw[e3] at hO61;simpa using hO61),Z,cI<|bg B,aq⟩)))
 refine PY 3 Z<|aU<|Q1 7 Z ?_;exact aB Z Z ⟨K.gF M,H.bY _ _,by rw[tL_<|br h9] at hO;exact(show cN 1 9 gk (gf k x) u M by simpa using hO).iC,aq.keeps⟩
theorem O9 {G:Cx} (hG:Plain G) {K:H} {l:List (List Nat)} {v:V} (h:bJ K 1 gk l v) (hl:l.length<=100000) {U:I} {L:Own} (aq:J U K L):bm Tryz.prog G 276 [v] U fun v U'=>∃E l',H.le K E/\bJ E 1 gk l' v/\(∀s,s∈l'↔s∈l)/\J U' E L:=by
 refine QX hG Tryz.func276 Z<|PU 17 Z ?_;obtain⟨LL1,aq,hLL1⟩:=aq.named;refine bp (rg 3 56) (fun j t U=>∃(i:Nat) (o:List (List Nat)) (u:V) (E:H),j+i=l.length/\H.le K E/\bJ E 1 gk o u/\(∀s,s∈o↔s∈l.take i)/\o.length<=i/\t.get 3=some (u)/\t.get 4=some (.int .i64 (.ofNat i))/\J U E LL1) (l.length) ⟨0,[],.au,K,Z,H.le_refl _,.inl ⟨Z,Z⟩,by simp,nR_ _,Z,Z,aq⟩ ?_;clear aq;intro j3 t U ar hI;obtain⟨i,o,u,E,hj,hle,Q,hm,aK,bi,bl,aq⟩:=hI;subst hLL1;obtain⟨oo,rfl⟩:=ar.q2 bi bl Z;have h1:=h.mono hle (fun _ _ h=>h);refine PV 5 Z<|O Z (RG h1 Z Z Z (e:=9) Z) Z<|QC 3 Z<|aD Z (fun W=>?_) (fun W=>?_)
 ·refine OR 10 Z<|aO ?_;obtain⟨LL2,aq,hLL2⟩:=aq.named;refine bp ([5]++rg 12 17) (fun j t U=>∃(k2:Nat),j+k2=o.length/\t.get 5=some (.int .i64 (.ofNat k2))/\J U E LL2) (o.length) ⟨0,Z,Z,aq⟩ ?_;clear aq;intro j6 t U ar hI;obtain⟨k2,cn,bo,aq⟩:=hI;subst hLL2;obtain⟨oo,rfl⟩:=ar.q1 bo Z;refine ak<|ak<|aS (l:=zp [0,1,2,3,4,5,6,7,8,9,10,11,12,13,14]) Y Y<|Q5 2 Z<|al Z Z (RG Q Z Z Z (e:=9) Z) Z<|wQ 1 Z<|dC Z Z (an Z) (fun _=>Z) (fun F=>?_) (fun F=>?_)
  ·refine Q5 2 Z ?_;obtain⟨co,a0,b6⟩:=cE F;refine Ry (e:=9) (m:=1) Q a0 Z Z Z Z Z (fun cp b7 a1 b8 a2=>?_);obtain rfl:=a2;refine al Z Z (RI aq a1 Z Z) Z<|Q5 2 Z ?_;obtain⟨cv,a3,b9⟩:=cE W;refine Ry (e:=9) (m:=1) h1 a3 Z Z Z Z Z (fun cx ca a4 cb a5=>?_);obtain rfl:=a5;refine al Z Z (RI aq a4 Z Z) Z<|QF 4 Z<|aD Z (fun bs=>?_) (fun bs=>?_)
   ·refine aG<|Q0 7 Z<|aM ⟨j6-1,(by have:=bk F;omega),oF,k2+1,(by have:=bk F;omega),cI<|bg (by have:=Q.bG;omega),aq⟩
   refine PY 3 Z<|aU<|ad<|ak<|ak<|aS (l:=zp [0,1,2,3,4,5,6,7,8,9,10,11,12,13,14]) Y Y<|Q5 2 Z<|al Z Z (RG Q Z Z Z (e:=9) Z) Z<|wQ 1 Z<|dC Z Z (an Z) (fun _=>Z) (fun M=>?_) (fun M=>?_)
   ·refine Q5 2 Z ?_;obtain⟨c0,ae,cc⟩:=cE M;refine Ry (e:=9) (m:=1) Q ae Z Z Z Z Z (fun c1 ce a6 ch a7=>?_);obtain rfl:=a7;refine al Z Z (RI aq a6 Z Z) Z<|Q5 2 Z ?_;obtain⟨c2,am,ci⟩:=cE W;refine Ry (e:=9) (m:=1) h1 am Z Z Z Z Z (fun c3 ck a8 cl a9=>?_);obtain rfl:=a9;refine al Z Z (RI aq a8 Z Z) Z<|QF 4 Z<|aD Z (fun h43=>?_) (fun h43=>?_)
    ·refine bu<|aX<|aU<|Q0 5 Z<|aM ⟨j3-1,(by have:=bk W;omega),oF,i+1,o,u,E,(by have:=bk W;omega),hle,Q,H6 hm ae am (by have h43:=h43;rw[mQ] at h43;exact of_decide_eq_true h43),B,Z,cI<|bg (by have:=h.bG;omega),aq⟩
    refine aG (ad (aS (l:=[(0,[]),(1,[]),(2,[]),(3,[]),(5,[]),(6,[]),(7,[]),(8,[]),(9,[]),(11,[]),(12,[]),(13,[]),(4,[8,9]),(10,[]),(14,[]),(15,[])]) Y Y<|ie aq Z Z (bW (e:=9) (m:=1) (z:=[.str []]) (cs:=[]) Y Y Y Y bH) (fun _=>Z) (fun U b1 aq=>?_)));replace aq:J U _ ([(b1,.row [] 9 false)]++_):=aq;refine Q5 2 Z<|uL (e:=9) (m:=1) (k:=k2) Q B Z Z Z Y Y Z Z (fun _=>Z) (fun bt aa=>?_);refine Q5 2 Z ?_;obtain⟨bv,A,bb⟩:=cE W;refine Ry (e:=9) (m:=1) h1 A Z Z Z Z Z (fun bw bc C be ab=>?_);obtain rfl:=ab;refine al Z Z (RI aq C Z Z) Z<|ie aq Z Z (bW (e:=9) (m:=1) (z:=[.str []]) (cs:=[_]) Y Y Y Y<|bA Z Z Z Z bH) (fun _=>Z) (fun U b2 aq=>?_);refine Q5 2 Z<|qL (e:=9) (m:=1) (k:=k2) Q B Z Z Z Y Y Z Z (fun _=>Z) (fun bz ac=>?_);replace aq:=aq.pull (.there .here);refine jH (R:=gk) (m:=1) (e:=9) cN.empty aq aa gk.leaf (by simp;omega) Z Z Z Z Z Z Z Z (fun _=>Z) (fun U b0 b3 hO48 aq=>?_);refine⟨(bx (bO Z Z Z Z Z (RI aq C Z Z)<|Ci _)<|bx (kC Z Z Z Z Z (pb (e:=9) (m:=1) (z:=[.str []]) (cs:=[_]) Y Y Y Y<|bA Z Z Z Z bH) aq.aR.g0<|bK (td _) eP) aT),?_⟩;replace aq:=aq.pull (.cH<|ei.here (X:=[_]));refine k9 (R:=gk) (m:=1) (e:=9) hO48 aq (eJ (m:=1) Z Z) gk.leaf (by simp;omega) Z Z Z Z Z Z Z Z (fun _=>Z) (fun U b4 b5 hO54 aq=>?_);refine⟨aT,?_⟩;refine jH (R:=gk) (m:=1) (e:=9) hO54 aq ac gk.leaf (by simp;omega) Z Z Z Z Z Z Z Z (fun _=>Z) (fun U ao ap hO58 aq=>?_);refine⟨aT,?_⟩;replace aq:=aq.keeps;refine Q4 2 Z<|aI<|Q0 5 Z<|aM ⟨j3-1,(by have:=bk W;omega),oF,i+1,_,ao,E.gF ap,(by have:=bk W;omega),H.le_trans hle<|H.bY _ _,hO58.iC,GD hm A,Gx aK B,Z,cI<|bg (by have:=h.bG;omega),aq⟩
   exact absurd M (by rw[F];decide)
  refine QF 13 Z<|PY 3 Z<|aU<|ad<|ak<|ak<|aS (l:=zp [0,1,2,3,4,5,6,7,8,9,10,11,12,13,14]) Y Y<|Q5 2 Z<|al Z Z (RG Q Z Z Z (e:=9) Z) Z<|wQ 1 Z<|dC Z Z (an Z) (fun _=>Z) (fun M=>?_) (fun M=>?_)
  ·exact absurd M (by rw[F];decide)
  refine QF 13 Z (aG (ad (aS (l:=[(0,[]),(1,[]),(2,[]),(3,[]),(5,[]),(6,[]),(7,[]),(8,[]),(9,[]),(11,[]),(12,[]),(13,[]),(4,[8,9]),(10,[]),(14,[]),(15,[])]) Y Y<|ie aq Z Z (bW (e:=9) (m:=1) (z:=[.str []]) (cs:=[]) Y Y Y Y bH) (fun _=>Z) (fun U b1 aq=>?_))));replace aq:J U _ ([(b1,.row [] 9 false)]++_):=aq;refine Q5 2 Z<|uL (e:=9) (m:=1) (k:=k2) Q B Z Z Z Y Y Z Z (fun _=>Z) (fun bt aa=>?_);refine Q5 2 Z ?_;obtain⟨bv,A,bb⟩:=cE W;refine Ry (e:=9) (m:=1) h1 A Z Z Z Z Z (fun bw bc C be ab=>?_);obtain rfl:=ab;refine al Z Z (RI aq C Z Z) Z<|ie aq Z Z (bW (e:=9) (m:=1) (z:=[.str []]) (cs:=[_]) Y Y Y Y<|bA Z Z Z Z bH) (fun _=>Z) (fun U b2 aq=>?_);refine Q5 2 Z<|qL (e:=9) (m:=1) (k:=k2) Q B Z Z Z Y Y Z Z (fun _=>Z) (fun bz ac=>?_);replace aq:=aq.pull (.there .here);refine jH (R:=gk) (m:=1) (e:=9) cN.empty aq aa gk.leaf (by simp;omega) Z Z Z Z Z Z Z Z (fun _=>Z) (fun U b0 b3 hO48 aq=>?_);refine⟨(bx (bO Z Z Z Z Z (RI aq C Z Z)<|Ci _)<|bx (kC Z Z Z Z Z (pb (e:=9) (m:=1) (z:=[.str []]) (cs:=[_]) Y Y Y Y<|bA Z Z Z Z bH) aq.aR.g0<|bK (td _) eP) aT),?_⟩;replace aq:=aq.pull (.cH<|ei.here (X:=[_]));refine k9 (R:=gk) (m:=1) (e:=9) hO48 aq (eJ (m:=1) Z Z) gk.leaf (by simp;omega) Z Z Z Z Z Z Z Z (fun _=>Z) (fun U b4 b5 hO54 aq=>?_);refine⟨aT,?_⟩;refine jH (R:=gk) (m:=1) (e:=9) hO54 aq ac gk.leaf (by simp;omega) Z Z Z Z Z Z Z Z (fun _=>Z) (fun U ao ap hO58 aq=>?_);refine⟨aT,?_⟩;replace aq:=aq.keeps;refine Q4 2 Z<|aI<|Q0 5 Z<|aM ⟨j3-1,(by have:=bk W;omega),oF,i+1,_,ao,E.gF ap,(by have:=bk W;omega),H.le_trans hle<|H.bY _ _,hO58.iC,GD hm A,Gx aK B,Z,cI<|bg (by have:=h.bG;omega),aq⟩
 refine PY 3 Z<|aU<|Q1 7 Z ?_;exact aB Z Z ⟨E,o,hle,Q,(by rw[tL_<|br W] at hm;exact hm),aq⟩
theorem NT {G:Cx} (A:Plain G) {K:H} {k:Nat} {x:XE} {ev v:V} (h:bJ K 7 (PM ev) [()] v) (he:bJ K 4 (eE K k) [x] ev) (hS:db k x<=100000) {U:I} {L:Own} (aq:J U K L):bm Tryz.prog G 262 [v] U fun v U'=>∃C l',H.le K C/\bJ C 1 gk l' v/\(∀s,s∈l'↔s∈gf k x)/\J U' C L:=by
 have hrl:=qO k x;refine QX A Tryz.func262 Z<|QA 8 Z<|cd Z (RC Z Z Z) (fun _=>Z) (Jc A h he B aq) ?_;rintro v4 U ⟨K4,u,h4,aq⟩;refine cd Z (RC Z Z Z) (fun _=>Z) (O9 A h4 B aq) ?_;rintro v5 U ⟨F,M,z,h5,E,aq⟩;refine QE 4 Z ?_;exact aB Z Z ⟨F,M,H.le_trans u z,h5,E,aq⟩
theorem LU {G:Cx} (R:Plain G) {K:H} {k:Nat} {x:XE} {vs:List V} (W:eE K k x vs) (hS:db k x<=100000) {U:I} {L:Own} (aq:J U K L):bm Tryz.prog G 234 [.agg vs] U fun v U'=>∃E l',H.le K E/\bJ E 1 gk l' v/\(∀s,s∈l'↔s∈gf k x)/\J U' E L:=by
 obtain⟨o0,n0,s0,v0,rfl,hk⟩:=W.shape;refine QX R Tryz.func234 Z<|QA 2 Z<|kp aq Z (cA Z Z) (fun U b1 aq=>?_);refine P1 5 Z<|O Z (RF Z aq.g0 (n:=4) (vs:=[_,_,_,_]) Z) Z<|gD aq Z (bW (e:=82) (m:=4) (z:=[T,T,.str [],.au]) (cs:=[_,_,_,_]) Y Y Y Y<|bA Z Z Z Z bH) (fun _=>Z) (fun U b2 aq=>?_);obtain⟨X,A,F,aq⟩:=CY aq;have h4:bJ X 4 (eE X k) [x] (.slice b2 0 1 (.known 1)):=AY Z (W.mono A) F;refine O Z (bE (places:=[(0,1),(1,1),(2,1),(3,1),(4,1),(5,1),(6,1)]) (zero:=[T,.str [],.str [],T,.au,.au,.au]) (cs:=[_,_,_,_,_,_,_]) Y Y Y (bA Z Z h4.leaf.1 Z bH) Y) Z<|gD aq Z (bW (e:=304) (m:=7) (z:=[T,.str [],.str [],T,.au,.au,.au]) (cs:=[_,_,_,_,_,_,_]) Y Y Y Y<|bA Z Z Z Z bH) (fun _=>Z) (fun U b3 aq=>?_);obtain⟨K6,u,M,aq⟩:=CY aq;have h6:bJ K6 7 (PM _) [()] (.slice b3 0 1 (.known 1)):=AY Z Z M;replace h4:=h4.mono u fun _ _ h=>eE.mono u h
 refine cd Z (RC Z Z Z) (fun _=>Z) (NT R h6 h4 hS aq) ?_;rintro v7 U ⟨K7,l7,C,h7,Q,aq⟩;refine QE 4 Z ?_;exact aB Z Z ⟨K7,l7,H.le_trans (H.le_trans A u) C,h7,Q,aq.pop⟩
theorem mG {α β:Type} {f:α->β} {l:List α} {i:Nat} {x:α} (h:l[i]?=some x):(l.take (i+1)).map f=(l.take i).map f++[f x]:=by rw[List.take_add_one,h];simp
theorem CZ {k:Nat}:∀{kids:List XE},(∀y∈kids,ja k y)->kids.length<=(kids.map<|db k).sum
 | [],_=>nR_ _
 | x::l,h=>by
  have:=CZ fun y hy=>h y (mC_ _ hy)
  have h1:1<=db k x:=by
   have:=h x (mS_ ..);cases k with
   | zero=>exact this.elim
   | succ k=>exact Ip
  simp only[List.length_cons,List.map_cons,List.sum_cons];omega
theorem Ff {op:Int} {s:List Nat} {n:Nat} (h:D op 2=true) (u:iT s=some n):jt op s=114::s:=by unfold jt;rw[h,u];rfl
theorem Fe {op:Int} {s:List Nat} (h:D op 2=true) (u:iT s=none):jt op s= [48]:=by unfold jt;rw[h,u];rfl
theorem JZ {op:Int} {s:List Nat} (h:D op 2=false):jt op s=s:=by unfold jt;rw[h];rfl
theorem LO {G:Cx} (hG:Plain G):∀(k:Nat) (K:H) (x:XE) (vs:List V),eE K k x vs->ja k x->db k x<=1000000->∀(U:I) (L:Own),J U K L->bm Tryz.prog G 233 [.agg vs,.str [114]] U fun v U'=>∃Q ws,v= .agg ws/\H.le K Q/\eE Q k (gb k x) ws/\J U' Q L:=by
 intro k;induction k with
 | zero=>intro K x vs h;cases x;exact h.elim
 | succ k ih=>
 intro K x vs hE hF hS U L aq;obtain⟨op,num,name,kids⟩:=x;obtain⟨v,rfl,hk⟩:=hE;have hS:(kids.map<|db k).sum+1<=1000000:=hS;have hkl:=CZ hF.2;refine QX hG Tryz.func233 Z<|QA 2 Z<|kp aq Z (cA Z Z) (fun U b1 aq=>?_);refine kp aq Z (cg (cs:=[T,T,.str [],.au]) Y Y) (fun U b2 aq=>?_);refine Qa aq 10 [0,1,1,1,2,1] Z Z (O Z (bE (places:=[(0,1),(1,1),(2,1),(3,1)]) (zero:=[T,T,.str [],.au]) (cs:=[_,_,_,_]) Y Y Y Z Y) Z<|kp aq Z (cg (cs:=[T,T,.str [],.au]) Y Y) (fun U b3 aq=>?_));refine bF aq Z (RK Z Z Z aq.g0 (m:=4) Z Z (cells':=[_,_,_,_]) Z) Z (fun U aq=>?_);refine Pz aq 8 [0,2] Z Z<|ky Z (an Z) (fun ac=>?_) (fun ac=>?_)
 ·refine Q7 aq 2 [2,2] Z Z<|bj Z (RC Z Z Z) (fun _=>Z) (Ja hG _ aq) (fun U aq=>?_);refine QC 4 Z<|aD Z (fun aK=>?_) (fun aK=>?_)
  ·refine Q6 aq 4 [2,2] Z Z ?_;obtain⟨nn,a6⟩:=GF aK;refine O Z (az Z Z<|MQ a6) Z<|O Z (RD 2 Z) Z<|bF aq Z (RK Z Z Z aq.g0 (m:=1) Z Z (cells':=[_,_,_,_]) Z) Z (fun U aq=>?_);refine Pw 5 Z ?_;obtain⟨nn,a6⟩:=GF aK;replace aq:J U K ([]++(b3,.row [.int .i64 op,.int .i64 num,.str<|jt op name,.au] 82 false)::(b2,.row [T,T,.str [],.au] 82 false)::(b1,.row [.int .i64 op,.int .i64 num,.str name,v] 82 false)::L):=by rw[Ff ac a6];exact aq
   refine PZ 4 Z (bp ([6]++rg 32 19) (fun j t U=>∃(i:Nat) (u:V) (M:Own) (Q:H),j+i=kids.length/\H.le K Q/\cN 4 82 (eE Q k) ((kids.take i).map<|gb k) u M/\t.get 6=some (.int .i64 (.ofNat i))/\J U Q (M++(b3,.row [.int .i64 op,.int .i64 num,.str<|jt op name,u] 82 false)::(b2,.row [T,T,.str [],.au] 82 false)::(b1,.row [.int .i64 op,.int .i64 num,.str name,v] 82 false)::L)) (kids.length) ⟨0,.au,[],K,Z,H.le_refl _,cN.nil,Z,aq⟩ ?_);clear aq;intro j7 t U ar hI;obtain⟨i,u,M,Q,hj,hle,W,ae,aq⟩:=hI;obtain⟨oo,rfl⟩:=ar.q1 ae Z;have hk1:=hk.mono hle (fun _ _ h=>eE.mono hle h);refine P7 aq 5 [3] Z Z<|O Z (RE Z aq.aR.pop.pop.g0 Z) Z<|O Z (RG hk1 Z Z Z (e:=82) Z) Z<|QC 3 Z<|aD Z (fun E=>?_) (fun E=>?_)
   ·refine Pt 4 Z (aS (l:=[(0,[]),(1,[]),(2,[]),(3,[]),(4,[]),(5,[]),(6,[]),(7,[]),(8,[1]),(9,[]),(10,[]),(11,[]),(12,[])]) Y Y<|al Z Z (RD 3 Z) Z<|al Z Z (RE Z aq.aR.g0 Z) Z<|al Z Z (RD 3 Z) Z<|al Z Z (RE Z aq.aR.pop.pop.g0 Z) Z<|wQ 1 Z ?_);obtain⟨a7,A,a0⟩:=cE E;refine Ry (e:=82) (m:=4) hk1 A Z Z Z Z Z (fun a8 a1 aa a2 F=>?_);obtain⟨a9,bb,bc,be,rfl,a3⟩:=F.shape;refine al Z Z (RJ aq aa Z Z) Z<|wQ 1 Z<|ic Z Z (RC Z Z Z) (fun _=>Z) (ih _ _ _ F (hF.2 _<|gB_ A) (Nat.le_trans (my (f:=db k) A) B) _ _ aq) ?_;rintro _ U ⟨ab,a4,rfl,C,hE47,aq⟩;refine⟨(bx (bO Z Z Z Z Z (RE Z aq.aR.g0 Z) (W.iC (K:=fun _ _=>False)).dZ) aT),?_⟩;obtain⟨bi,bl,bo,bs,rfl,a5⟩:=hE47.shape;have hO':=W.zW (fun _ _ h=>eE.mono C h);refine ie aq Z Z (bW (e:=82) (m:=4) (z:=[T,T,.str [],.au]) (cs:=[_,_,_,_]) Y Y Y Y<|bA Z Z Z Z bH) (fun _=>Z) (fun U b4 aq=>?_);replace aq:=aq.pull (.there .here);replace aq:=aq.pull (.cH<|ei.here (X:=[_]));refine k9 (R:=eE ab k) (m:=4) (e:=82) hO' aq (eJ (m:=4) Z hE47) eE.leaf (by rw[lM_,lT_];show _+1<=_;omega) Z Z Z Z Z Z Z Z (fun _=>Z) (fun U am ao hO49 aq=>?_);refine⟨aT,?_⟩;refine al Z Z (RD 3 Z) Z<|fC aq (.cH .here) Z Z (aJ Z Z hO49.leaf.1 aq.aR.g0 (m:=1) Y Z (lb Z) (N hO49.leaf.2 aA) (cells':=[_,_,_,_]) Z) Z (fun U aq=>?_);refine⟨aT,?_⟩;refine aY<|aI<|Q0 5 Z<|aM ⟨j7-1,(by have:=bk E;omega),oF,i+1,am,ao,ab,B,H.le_trans hle C,(by rw[mG A];exact hO49),cI<|bg (by have:=hk.bG;omega),aq⟩
   refine PY 3 Z<|aU<|QA 2 Z<|O Z (RF Z aq.aR.g0 (n:=4) (vs:=[_,_,_,_]) Z) Z<|cw aq (.cH (.there .here)) Z (RK Z Z Z aq.aR.pop.g0 (m:=4) Z (N Z<|N Z<|N Z<|N W.leaf.2 aA) (cells':=[_,_,_,_]) Z) Z (fun U aq=>?_);refine QE 3 Z ?_;exact eW Z Z aq.aR.pop.g0 (m:=4) Y Z ⟨Q.gF M,_,Z,H.le_trans hle<|H.bY _ _,⟨u,Z,by rw[tL_<|br E] at W;exact W.iC.mono (H.le_refl _) fun _ _ h=>eE.mono (H.bY _ _) h⟩,aq.keeps.pop.pop.pop⟩
  refine QH aq 5 [0,2] Z Z<|QC 2 Z<|aD Z (fun ap=>?_) (fun ap=>?_)
  ·refine Q6 aq 2 [2] Z Z<|bF aq Z (RK Z Z Z aq.g0 (m:=1) Z Z (cells':=[_,_,_,_]) Z) Z (fun U aq=>?_);refine Pw 5 Z ?_;replace aq:J U K ([]++(b3,.row [.int .i64 op,.int .i64 num,.str<|jt op name,.au] 82 false)::(b2,.row [T,T,.str [],.au] 82 false)::(b1,.row [.int .i64 op,.int .i64 num,.str name,v] 82 false)::L):=by rw[Fe ac<|Mz aK];exact aq
   refine PZ 4 Z (bp ([6]++rg 32 19) (fun j t U=>∃(i:Nat) (u:V) (M:Own) (Q:H),j+i=kids.length/\H.le K Q/\cN 4 82 (eE Q k) ((kids.take i).map<|gb k) u M/\t.get 6=some (.int .i64 (.ofNat i))/\J U Q (M++(b3,.row [.int .i64 op,.int .i64 num,.str<|jt op name,u] 82 false)::(b2,.row [T,T,.str [],.au] 82 false)::(b1,.row [.int .i64 op,.int .i64 num,.str name,v] 82 false)::L)) (kids.length) ⟨0,.au,[],K,Z,H.le_refl _,cN.nil,Z,aq⟩ ?_);clear aq;intro j7 t U ar hI;obtain⟨i,u,M,Q,hj,hle,W,ae,aq⟩:=hI;obtain⟨oo,rfl⟩:=ar.q1 ae Z;have hk1:=hk.mono hle (fun _ _ h=>eE.mono hle h);refine P7 aq 5 [3] Z Z<|O Z (RE Z aq.aR.pop.pop.g0 Z) Z<|O Z (RG hk1 Z Z Z (e:=82) Z) Z<|QC 3 Z<|aD Z (fun E=>?_) (fun E=>?_)
   ·refine Pt 4 Z (aS (l:=[(0,[]),(1,[]),(2,[]),(3,[]),(4,[]),(5,[]),(6,[]),(7,[]),(8,[1]),(9,[]),(10,[]),(11,[]),(12,[])]) Y Y<|al Z Z (RD 3 Z) Z<|al Z Z (RE Z aq.aR.g0 Z) Z<|al Z Z (RD 3 Z) Z<|al Z Z (RE Z aq.aR.pop.pop.g0 Z) Z<|wQ 1 Z ?_);obtain⟨a7,A,a0⟩:=cE E;refine Ry (e:=82) (m:=4) hk1 A Z Z Z Z Z (fun a8 a1 aa a2 F=>?_);obtain⟨a9,bb,bc,be,rfl,a3⟩:=F.shape;refine al Z Z (RJ aq aa Z Z) Z<|wQ 1 Z<|ic Z Z (RC Z Z Z) (fun _=>Z) (ih _ _ _ F (hF.2 _<|gB_ A) (Nat.le_trans (my (f:=db k) A) B) _ _ aq) ?_;rintro _ U ⟨ab,a4,rfl,C,hE47,aq⟩;refine⟨(bx (bO Z Z Z Z Z (RE Z aq.aR.g0 Z) (W.iC (K:=fun _ _=>False)).dZ) aT),?_⟩;obtain⟨bi,bl,bo,bs,rfl,a5⟩:=hE47.shape;have hO':=W.zW (fun _ _ h=>eE.mono C h);refine ie aq Z Z (bW (e:=82) (m:=4) (z:=[T,T,.str [],.au]) (cs:=[_,_,_,_]) Y Y Y Y<|bA Z Z Z Z bH) (fun _=>Z) (fun U b4 aq=>?_);replace aq:=aq.pull (.there .here);replace aq:=aq.pull (.cH<|ei.here (X:=[_]));refine k9 (R:=eE ab k) (m:=4) (e:=82) hO' aq (eJ (m:=4) Z hE47) eE.leaf (by rw[lM_,lT_];show _+1<=_;omega) Z Z Z Z Z Z Z Z (fun _=>Z) (fun U am ao hO49 aq=>?_);refine⟨aT,?_⟩;refine al Z Z (RD 3 Z) Z<|fC aq (.cH .here) Z Z (aJ Z Z hO49.leaf.1 aq.aR.g0 (m:=1) Y Z (lb Z) (N hO49.leaf.2 aA) (cells':=[_,_,_,_]) Z) Z (fun U aq=>?_);refine⟨aT,?_⟩;refine aY<|aI<|Q0 5 Z<|aM ⟨j7-1,(by have:=bk E;omega),oF,i+1,am,ao,ab,B,H.le_trans hle C,(by rw[mG A];exact hO49),cI<|bg (by have:=hk.bG;omega),aq⟩
   refine PY 3 Z<|aU<|QA 2 Z<|O Z (RF Z aq.aR.g0 (n:=4) (vs:=[_,_,_,_]) Z) Z<|cw aq (.cH (.there .here)) Z (RK Z Z Z aq.aR.pop.g0 (m:=4) Z (N Z<|N Z<|N Z<|N W.leaf.2 aA) (cells':=[_,_,_,_]) Z) Z (fun U aq=>?_);refine QE 3 Z ?_;exact eW Z Z aq.aR.pop.g0 (m:=4) Y Z ⟨Q.gF M,_,Z,H.le_trans hle<|H.bY _ _,⟨u,Z,by rw[tL_<|br E] at W;exact W.iC.mono (H.le_refl _) fun _ _ h=>eE.mono (H.bY _ _) h⟩,aq.keeps.pop.pop.pop⟩
  exact absurd ap (by rw[ac];decide)
 refine QJ aq 15 [0,2] Z Z<|aD Z (fun ap=>?_) (fun ap=>?_)
 ·exact absurd ap (by rw[ac];decide)
 refine Pu 5 Z ?_;replace aq:J U K ([]++(b3,.row [.int .i64 op,.int .i64 num,.str<|jt op name,.au] 82 false)::(b2,.row [T,T,.str [],.au] 82 false)::(b1,.row [.int .i64 op,.int .i64 num,.str name,v] 82 false)::L):=by rw[JZ ac];exact aq
 refine PZ 4 Z (bp ([6]++rg 32 19) (fun j t U=>∃(i:Nat) (u:V) (M:Own) (Q:H),j+i=kids.length/\H.le K Q/\cN 4 82 (eE Q k) ((kids.take i).map<|gb k) u M/\t.get 6=some (.int .i64 (.ofNat i))/\J U Q (M++(b3,.row [.int .i64 op,.int .i64 num,.str<|jt op name,u] 82 false)::(b2,.row [T,T,.str [],.au] 82 false)::(b1,.row [.int .i64 op,.int .i64 num,.str name,v] 82 false)::L)) (kids.length) ⟨0,.au,[],K,Z,H.le_refl _,cN.nil,Z,aq⟩ ?_);clear aq;intro j7 t U ar hI;obtain⟨i,u,M,Q,hj,hle,W,ae,aq⟩:=hI;obtain⟨oo,rfl⟩:=ar.q1 ae Z;have hk1:=hk.mono hle (fun _ _ h=>eE.mono hle h);refine P7 aq 5 [3] Z Z<|O Z (RE Z aq.aR.pop.pop.g0 Z) Z<|O Z (RG hk1 Z Z Z (e:=82) Z) Z<|QC 3 Z<|aD Z (fun E=>?_) (fun E=>?_)
 ·refine Pt 4 Z (aS (l:=[(0,[]),(1,[]),(2,[]),(3,[]),(4,[]),(5,[]),(6,[]),(7,[]),(8,[1]),(9,[]),(10,[]),(11,[]),(12,[])]) Y Y<|al Z Z (RD 3 Z) Z<|al Z Z (RE Z aq.aR.g0 Z) Z<|al Z Z (RD 3 Z) Z<|al Z Z (RE Z aq.aR.pop.pop.g0 Z) Z<|wQ 1 Z ?_);obtain⟨a7,A,a0⟩:=cE E;refine Ry (e:=82) (m:=4) hk1 A Z Z Z Z Z (fun a8 a1 aa a2 F=>?_);obtain⟨a9,bb,bc,be,rfl,a3⟩:=F.shape;refine al Z Z (RJ aq aa Z Z) Z<|wQ 1 Z<|ic Z Z (RC Z Z Z) (fun _=>Z) (ih _ _ _ F (hF.2 _<|gB_ A) (Nat.le_trans (my (f:=db k) A) B) _ _ aq) ?_;rintro _ U ⟨ab,a4,rfl,C,hE47,aq⟩;refine⟨(bx (bO Z Z Z Z Z (RE Z aq.aR.g0 Z) (W.iC (K:=fun _ _=>False)).dZ) aT),?_⟩;obtain⟨bi,bl,bo,bs,rfl,a5⟩:=hE47.shape;have hO':=W.zW (fun _ _ h=>eE.mono C h);refine ie aq Z Z (bW (e:=82) (m:=4) (z:=[T,T,.str [],.au]) (cs:=[_,_,_,_]) Y Y Y Y<|bA Z Z Z Z bH) (fun _=>Z) (fun U b4 aq=>?_);replace aq:=aq.pull (.there .here);replace aq:=aq.pull (.cH<|ei.here (X:=[_]));refine k9 (R:=eE ab k) (m:=4) (e:=82) hO' aq (eJ (m:=4) Z hE47) eE.leaf (by rw[lM_,lT_];show _+1<=_;omega) Z Z Z Z Z Z Z Z (fun _=>Z) (fun U am ao hO49 aq=>?_);refine⟨aT,?_⟩;refine al Z Z (RD 3 Z) Z<|fC aq (.cH .here) Z Z (aJ Z Z hO49.leaf.1 aq.aR.g0 (m:=1) Y Z (lb Z) (N hO49.leaf.2 aA) (cells':=[_,_,_,_]) Z) Z (fun U aq=>?_);refine⟨aT,?_⟩;refine aY<|aI<|Q0 5 Z<|aM ⟨j7-1,(by have:=bk E;omega),oF,i+1,am,ao,ab,B,H.le_trans hle C,(by rw[mG A];exact hO49),cI<|bg (by have:=hk.bG;omega),aq⟩
 refine PY 3 Z<|aU<|QA 2 Z<|O Z (RF Z aq.aR.g0 (n:=4) (vs:=[_,_,_,_]) Z) Z<|cw aq (.cH (.there .here)) Z (RK Z Z Z aq.aR.pop.g0 (m:=4) Z (N Z<|N Z<|N Z<|N W.leaf.2 aA) (cells':=[_,_,_,_]) Z) Z (fun U aq=>?_);refine QE 3 Z ?_;exact eW Z Z aq.aR.pop.g0 (m:=4) Y Z ⟨Q.gF M,_,Z,H.le_trans hle<|H.bY _ _,⟨u,Z,by rw[tL_<|br E] at W;exact W.iC.mono (H.le_refl _) fun _ _ h=>eE.mono (H.bY _ _) h⟩,aq.keeps.pop.pop.pop⟩
end Go.Ev
end
