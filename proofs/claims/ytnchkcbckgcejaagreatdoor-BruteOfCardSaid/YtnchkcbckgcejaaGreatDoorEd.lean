/- Part of the proof: an evaluator of the model's code, rules for walks on it, walks. Without conditions. -/
import Derived.Test.YtnchkcbckgcejaaGreatDoorEb
import Derived.Test.YtnchkcbckgcejaaGreatDoorEc
import Derived.Shelf.SlSortCmp.NoneTotal
import Derived.Test.YtnchkcbckgcejaaGreatDoorProg
import Derived.KernelRfl
set_option linter.unusedSectionVars false
set_option linter.unusedVariables false
set_option linter.unusedSimpArgs false
noncomputable section
set_option maxHeartbeats 8000000
set_option maxRecDepth 20000
open Go.Proofs
namespace Go.Ev
variable [Env]
variable {ln:Nat} {id:bS}
def Fw (n:Nat) (E:List (bS×cm)):List (List bS):=(List.range n).map fun x=>(E.filter fun p=>bif bz p.2 then F p.2.loc (.ofNat x) else false).map (·.1)
theorem nv {n:Nat} {E:List (bS×cm)}:(Fw n E).length=n:=by unfold Fw;rw[lM_,List.length_range]
theorem Qu {n:Nat}:Fw n []=List.replicate n []:=by
 unfold Fw;refine zf_ fun x=>?_
 rw[gM_]
 by_cases h:x<n
 ·rw[zr_ h,List.getElem?_replicate_of_lt h];rfl
 rw[gN_ (by rw[List.length_range];omega),gN_ (by rw[List.length_replicate];omega)];rfl
theorem vz {n x:Nat} {E:List (bS×cm)} (h:x<n):(Fw n E)[x]? =some ((E.filter fun p=>bif bz p.2 then F p.2.loc (.ofNat x) else false).map (·.1)):=by
 unfold Fw;rw[gM_,zr_ h];rfl
theorem Sv {n:Nat} {E:List (bS×cm)} {e:cm} (h:bz e=false):Fw n (E++[(id,e)])=Fw n E:=by
 unfold Fw;refine List.map_congr_left fun x _=>?_
 rw[List.filter_append,List.filter_cons_of_neg (by show¬(bif bz e then _ else false)=true;rw[h];exact Bool.false_ne_true),List.filter_nil,zk_]
theorem Qv {n:Nat} {E:List (bS×cm)} {e:cm} {l:List bS} (h:bz e=true) (hl:e.loc= .ofNat ln) (hx:(Fw n E)[ln]? =some l):Fw n (E++[(id,e)])=(Fw n E).set ln (l++[id]):=by
 have hn:ln<n:=by have:=(gA.1 hx).1;rw[nv] at this;exact this
 refine zf_ fun x=>?_
 by_cases d:x<n
 ·rw[vz d,List.filter_append]
  by_cases e1:ln=x
  ·subst e1;rw[List.getElem?_set_self (by rw[nv];exact hn),List.filter_cons_of_pos (by show(bif bz e then F e.loc (.ofNat ln) else false)=true;rw[h,hl];simp[cK]),List.filter_nil,List.map_append];rw[vz hn] at hx;rw[zs_ hx];rfl
  rw[List.getElem?_set_ne e1,vz d,List.filter_cons_of_neg (by
   show¬(bif bz e then F e.loc (.ofNat x) else false)=true;rw[h,hl,cK];intro u;have u:decide ((ln:Int)=(x:Int))=true:=u;rw[decide_eq_true_iff] at u;omega),List.filter_nil,zk_]
 rw[gN_ (by rw[nv];omega),gN_ (by rw[zg_,nv];omega)]
def qc (threads:List (List cm)) (t k:Nat):List (bS×cm):=qa 0 (threads.take t)++pK t 0 ((threads.getD t []).take k)
theorem EY {t:Nat} {b:List cm}:∀{a:List cm} {i:Nat},pK t i (a++b)=pK t i a++pK t (i+a.length) b
 | [],i=>rfl
 | e::a,i=>by
  show _::pK t (i+1) (a++b)=_;rw[EY (a:=a),show i+1+a.length=i+(e::a).length by rw[zc_];omega];rfl
theorem D6 {b:List (List cm)}:∀{a:List (List cm)} {t:Nat},qa t (a++b)=qa t a++qa (t+a.length) b
 | [],t=>rfl
 | r::a,t=>by
  show pK t 0 r++qa (t+1) (a++b)=_;rw[D6 (a:=a),show t+1+a.length=t+(r::a).length by rw[zc_];omega,<-lQ_];rfl
theorem Ju {threads:List (List cm)}:qc threads 0 0= []:=rfl
theorem lS {threads:List (List cm)} {t k:Nat} {row:List cm} {e:cm} (h1:threads[t]? =some row) (d:row[k]? =some e):qc threads t (k+1)=qc threads t k++[(⟨.ofNat (t+1),.ofNat k⟩,e)]:=by
 have hk:=(gA.1 d).1;unfold qc;rw[List.getD_eq_getElem?_getD,h1];show _++pK t 0 (row.take (k+1))=_++pK t 0 (row.take k)++_;rw[zb_,d,EY,lT_,Nat.min_eq_left oM,nA_,lQ_];rfl
theorem uM {threads:List (List cm)} {t:Nat} {row:List cm} (h1:threads[t]? =some row):qc threads t row.length=qc threads (t+1) 0:=by
 have ht:=(gA.1 h1).1;unfold qc;rw[List.getD_eq_getElem?_getD,h1];show _++pK t 0 (row.take row.length)=_;rw[List.take_length,zb_,h1,D6,lT_,Nat.min_eq_left oM,nA_];show _=(_++(pK t 0 row++[]))++[];rw[zk_,zk_]
theorem xT {threads:List (List cm)} {t:Nat} (h:threads.length<=t):qc threads t 0=qa 0 threads:=by
 unfold qc;rw[tL_ h];show _++[]=_;rw[zk_]
theorem zi {t:Nat}:∀{r:List cm} {i:Nat},(pK t i r).length=r.length
 | [],_=>rfl
 | _::r,i=>by show(pK t (i+1) r).length+1=_;rw[zi];rfl
theorem tH:∀{l:List (List cm)} {t:Nat},(∀r∈l,r.length<=14)->(qa t l).length<=14*l.length
 | [],_,_=>Nat.zero_le _
 | r::l,t,h=>by
  show(pK t 0 r++qa (t+1) l).length<=_;have h1:=tH (l:=l) (t:=t+1) fun x hx=>h x (mC_ _ hx)
  have h2:=h r (mS_ ..);rw[lA_,zi,zc_];omega
theorem xU {threads:List (List cm)} {t k:Nat} (h4:threads.length<=4) (h:∀r∈threads,r.length<=14):(qc threads t k).length<=70:=by
 unfold qc;have h1:=tH (l:=threads.take t) (t:=0) fun x hx=>h x (List.mem_of_mem_take hx)
 have h2:((threads.getD t []).take k).length<=14:=by
  rw[List.getD_eq_getElem?_getD];cases d:threads[t]? with
  | none=>exact Nat.le_trans (by rw[lT_];exact Nat.min_le_right ..) (Nat.zero_le _)
  | some r=>have:=h r (gB_ d);rw[lT_];show min k r.length<=14;omega
 rw[lA_,zi];rw[lT_] at h1;omega
theorem zD {init:List Int} {threads:List (List cm)}:eO init threads=Fw init.length (qa 0 threads):=rfl
theorem Dm {init:List Int} {threads:List (List cm)} (h:ln<init.length):(eO init threads)[ln]? =some ((zC threads (.ofNat ln)).map (·.1)):=vz h
def Ds (threads:List (List cm)) (t k:Nat):List (bS×cm):=(qc threads t k).filter fun p=>cz p.2
theorem wX {threads:List (List cm)} {t k:Nat} {row:List cm} {e:cm} (h1:threads[t]? =some row) (d:row[k]? =some e) (h:cz e=true):Ds threads t (k+1)=Ds threads t k++[(⟨.ofNat (t+1),.ofNat k⟩,e)]:=by
 unfold Ds;rw[lS h1 d,List.filter_append,List.filter_cons_of_pos (by exact h),List.filter_nil]
theorem G4 {threads:List (List cm)} {t k:Nat} {row:List cm} {e:cm} (h1:threads[t]? =some row) (d:row[k]? =some e) (h:cz e=false):Ds threads t (k+1)=Ds threads t k:=by
 unfold Ds;rw[lS h1 d,List.filter_append,List.filter_cons_of_neg (by rw[h];decide),List.filter_nil,zk_]
theorem ze {threads:List (List cm)} {t:Nat} {row:List cm} (h1:threads[t]? =some row):Ds threads t row.length=Ds threads (t+1) 0:=by unfold Ds;rw[uM h1]
theorem CJ {threads:List (List cm)} {t:Nat} (h:threads.length<=t):Ds threads t 0=iB threads:=by unfold Ds iB;rw[xT h]
theorem wW {threads:List (List cm)} {t k:Nat} (d:threads.length<=4) (h:∀r∈threads,r.length<=14):(Ds threads t k).length<=70:=Nat.le_trans (List.length_filter_le ..) (xU d h)
theorem Gg {threads:List (List cm)} {p:bS×cm} (h:p∈qa 0 threads):∃(t i:Nat) (row:List cm),p.1=⟨.ofNat (t+1),.ofNat i⟩/\threads[t]? =some row/\row[i]? =some p.2:=by
 obtain⟨a,k,h1,r,d,u⟩:=qb h;exact⟨a,k,r,by rw[h1,nA_],d,u⟩
theorem Qt {threads:List (List cm)} {loc:Int}:SI threads ((zC threads loc).map (·.1)):=fun w hw=>by
 obtain⟨p,hp,rfl⟩:=zn_.1 hw;obtain⟨t,i,row,h1,d,u⟩:=Gg (List.mem_filter.1 hp).1;exact⟨t,i,row,p.2,h1,d,u⟩
theorem Gl {init:List Int} {threads:List (List cm)} {e:cm} {v0:Int} (hl:e.loc= .ofNat ln) (h0:init[ln]? =some v0):AG v0 threads ((zC threads e.loc).map (·.1)) id e=kX init threads (id,e):=by
 unfold AG kX;have d:init.getD e.loc.toNat 0=v0:=by rw[hl,List.getD_eq_getElem?_getD];show(init[ln]?).getD 0=v0;rw[h0];rfl
 dsimp only;rw[d,List.filter_map];refine congrArg (fun z=>(bif F v0 e.read then [(⟨0,e.loc⟩:bS)] else [])++List.map (fun x:bS×cm=>x.1) z)<|List.filter_congr fun p hp=>?_;obtain⟨t,i,row,h1,u,A⟩:=Gg (List.mem_filter.1 hp).1;show vq threads id e.read p.1=_;unfold vq;rw[h1,xQ u A]
theorem oO {init:List Int} {threads:List (List cm)} (h:fX init threads=0):init.length<=6/\threads.length<=4/\(∀r∈threads,r.length<=14)/\∀r∈threads,∀e∈r,bY e (.ofNat init.length)=true:=by
 unfold fX at h;cases h1:(bif dH 6 (.ofNat init.length) then true else dH 4 (.ofNat threads.length)) with
 | true=>rw[h1] at h;cases h
 | false=>
  rw[h1] at h;cases d:threads.any (fun r=>dH 14 (.ofNat r.length)) with
  | true=>rw[d] at h;cases h
  | false=>
   rw[d] at h;cases z:threads.any (fun r=>r.any fun e=>cL (bY e (.ofNat init.length))) with
   | true=>rw[z] at h;cases h
   | false=>
    have A:init.length<=6/\threads.length<=4:=by
     cases h4:dH 6 (.ofNat init.length) with
     | true=>rw[h4] at h1;cases h1
     | false=>rw[h4] at h1;exact⟨bK (a:=6) (b:=init.length) h4,bK (a:=4) (b:=threads.length) h1⟩
    refine⟨A.1,A.2,fun r u=>?_,fun r u e he=>?_⟩
    ·have:=List.any_eq_false.1 d r u;exact bK (a:=14) (by simpa using this)
    have h4:=List.any_eq_false.1 z r u;have h4:(r.any fun e=>cL (bY e (.ofNat init.length)))=false:=by simpa using h4
    have h5:=List.any_eq_false.1 h4 e he;cases B:bY e (.ofNat init.length) with
    | true=>rfl
    | false=>rw[B] at h5;exact absurd Z h5
theorem Cr {e:cm} {n:Nat} (h:bY e (.ofNat n)=true) (hk:e.kind≠4):∃ln:Nat,e.loc= .ofNat ln/\ln<n:=by
 rw[dG,decide_eq_true_iff] at h;obtain⟨_,_,_,_,_,_,_,h⟩:=h;obtain⟨h1,d⟩:=h hk;refine⟨e.loc.toNat,(Int.toNat_of_nonneg h1).symm,?_⟩;have d:e.loc<(n:Int):=d;omega
theorem s6 {e:cm} (h:cz e=true):e.kind≠4:=by
 intro d;unfold cz at h;rw[d] at h;revert h;decide
theorem FA {e:cm} (h:bz e=true):e.kind≠4:=by
 intro d;unfold bz at h;rw[d] at h;revert h;decide
end Go.Ev
namespace Go.Ev
variable [Env] {α:Type} {φ:Go.Shelf.Ren} {gs:Nat->Bool} {Y:Ren} {O:aB}
open Go.Proofs Go.Shelf Go.RowKit Go.Lib Go.Sort
def PU:cN->Option cN
 | .row c e _=>some (.row c e true)
 | .own c e=>some (.row c e true)
 | _=>none
def Np (O:aB) (b:Nat):Nat->PT cN
 | 0=>.leaf
 | n+1=>if n=b then Np O b n else match(O.m.get n).bind PU with
  | some o=>(Np O b n).put (some o) n
  | none=>Np O b n
def Ol (O:aB) (b:Nat):aB:=⟨O.next,Np O b O.next⟩
theorem CO (O:aB) (b:Nat):∀n i:Nat,(Np O b n).get i=if i<n/\i≠b then(O.m.get i).bind PU else none
 | 0,i=>by
  show(PT.leaf:PT cN).get i=_;rw[PT.ml,if_neg oM]
 | n+1,i=>by
  have ih:=CO O b n i;unfold Np
  by_cases hb:n=b
  ·rw[if_pos hb,ih]
   by_cases h:i<n/\i≠b
   ·rw[if_pos h,if_pos ⟨by omega,h.2⟩]
   rw[if_neg h,if_neg oM]
  rw[if_neg hb]
  by_cases hi:i=n
  ·subst hi;rw[if_pos ⟨by omega,hb⟩];cases hg:(O.m.get i).bind PU with
   | some o=>dsimp only;exact PT.dY _ _ _
   | none=>dsimp only;rw[ih,if_neg oM]
  have key:(match(O.m.get n).bind PU with | some o=>(Np O b n).put (some o) n | none=>Np O b n).get i=(Np O b n).get i:=by
   cases (O.m.get n).bind PU with
   | some o=>exact PT.dL _ _ _ _ hi
   | none=>rfl
  rw[key,ih]
  by_cases h:i<n/\i≠b
  ·rw[if_pos h,if_pos ⟨by omega,h.2⟩]
  rw[if_neg h,if_neg oM]
theorem CN {b i:Nat} {o:cN} (h:(Ol O b).m.get i=some o):i≠b/\∃o',O.m.get i=some o'/\PU o'=some o:=by
 have d:(Np O b O.next).get i=some o:=h;rw[CO] at d;split at d
 ·rename_i u;obtain⟨o',z,A⟩:=Option.bind_eq_some_iff.1 d;exact⟨u.2,o',z,A⟩
 cases d
theorem Sd {o o':cN} (h:PU o=some o'):o'.ro=true:=by
 cases o<;>first | (cases h;rfl) | cases h
theorem TX {l:Loc} {o o':cN} {x:Obj} (h:PU o=some o') (hx:gF Y l o x):gF Y l o' x:=by
 cases o with
 | row c e ro=>
  cases h;obtain⟨c',fr,h1,d,u,z,_⟩:=hx;exact⟨c',fr,h1,d,u,z,fun h=>by cases h⟩
 | own c e=>
  cases h;obtain⟨_,c',fr,h1,d,u,z,_⟩:=hx;exact⟨c',fr,h1,d,u,z,fun h=>by cases h⟩
 | _=>cases h
theorem wY (O:aB) (b:Nat):ll (Ol O b):=fun i o h=>by
 obtain⟨_,o',_,d⟩:=CN h;exact Sd d
theorem Inv.Ol {Y:Ren} {O:aB} {w W:World} (hi:Inv Y O w) {b:Pos} {l:Loc} {o:cN} (hb:O.m.get b=some o) (z:o.ro=false) (hl:Y b=some l)
  (G:w.heap.size<=W.heap.size) (hw:∀r:Nat,r<w.heap.size->r≠l.dz->W.heap[r]? =w.heap[r]?):Inv Y (Ol O b) W:=by
 have B:∀r:Nat,r<Env.n0->r≠l.dz:=fun r d e=>hi.oI.no r d ⟨b,o,l,hb,z,hl,e.symm⟩
 refine⟨⟨fun b' C=>?_,fun b' l' h=>zh_ (hi.dz b' l' h) G,fun b' o' l' h1 u=>?_,fun b' b'' o' o'' l' l'' h1 u _ _ _ _=>⟨wY _ _ _ _ h1,wY _ _ _ _ u⟩⟩,⟨Nat.le_trans hi.oI.size G,fun r d=>?_,fun r d ⟨b',o',l',h1,u,_⟩=>by rw[wY _ _ _ _ h1] at u;cases u⟩⟩
 ·have hf:=hi.fresh b' C;refine⟨hf.1,?_⟩;cases hq:(Go.Ev.Ol O b).m.get b' with
  | none=>rfl
  | some q=>
   obtain⟨_,o',A,_⟩:=CN hq;rw[hf.2] at A;cases A
 ·obtain⟨hne,I,A,K⟩:=CN h1;obtain⟨x,hx,d⟩:=hi.obj b' I l' A u
  have E:l'.dz≠l.dz:=fun e=>by
   have:=(hi.inj b' b I o l' l A hb u hl e hne).2;rw[z] at this;cases this
  exact⟨x,by rw[hw _ (hi.dz b' l' u) E];exact hx,TX K d⟩
 rw[hw r (zh_ d hi.oI.size)<|B r d];exact hi.oI.same r d
theorem iN.grown {W w':World} (h:iN W w'):∃q os',w'=Go.Sort.grow (W.drewN q) os':=by
 refine⟨w'.drawn-W.drawn,w'.heap.extract W.heap.size w'.heap.size,?_⟩
 have e1:W.heap++w'.heap.extract W.heap.size w'.heap.size=w'.heap:=by
  apply Array.ext_getElem?;intro i
  by_cases hi:i<W.heap.size
  ·rw[Array.getElem?_append_left hi,h.same i hi]
  rw[Array.getElem?_append_right oM,Array.getElem?_extract]
  by_cases h2:i<w'.heap.size
  ·rw[if_pos oM];congr 1;omega
  rw[if_neg oM];simp[h2]
 have hd:=h.out.2;have h1:=h.out.1;have h2:=h.os;have h3:=h.tape;obtain⟨heap,tape,drawn,os,output⟩:=w';dsimp only at h1 h2 h3 hd e1;subst h1 h2 h3;unfold Go.Sort.grow World.drewN;dsimp only;rw[e1,Nat.add_sub_cancel' hd]
def fy (k:Nat) (cells:List V) {n:Nat} (d:Array (Fin (n+1))):List V:=
 (List.range (d.size*k)).map (fun t=>cells.getD ((d[t/k]!).val*k+t%k) .any)++cells.drop (d.size*k)
def HN (k:Nat) (cells:List V) (i:Nat):V:=.agg ((cells.drop (i*k)).take k)
def Du (P:Program) (G0:Cx) (k g:Nat) (O:aB) (b:Nat) (cells:List V) (n:Nat) (cf:Fin (n+1)->Fin (n+1)->Int):Prop:=
 SWO (ltOf cf)/\∀x y:Fin (n+1),bh P G0 g [HN k cells x.val,HN k cells y.val] (Ol O b) fun v _=>v= .int .i64 (cf x y)
def jV {n:Nat} (cf:Fin (n+1)->Fin (n+1)->Int):Array (Fin (n+1)):=
 pdq (ltOf cf) (Array.ofFn (fun i:Fin (n+1)=>i)) 0 (n+1) (Lib.bitLen (n+1)) true true
def KY (c:rK):Bool:=match c with | .known _=>true | .upto _=>true | .least _ _=>false
open Classical in
def zq (P:Program) (G0:Cx) (F_ k:Nat) (gs:Nat->Bool) (f:Nat) (args:List V) (O:aB):Option (V×aB):=
 if f=F_ then
  match args with
  | [.av,_]=>some (.tuple [],O)
  | [.slice b 0 (n+1) c,.func g [] []]=>
   match O.m.get b with
   | some (.row cells e false)=>
    if h:((n+1)*k<=cells.length/\n+1<4611686018427387904/\gs g=true/\KY c=true/\cM (cells.take ((n+1)*k))=true)/\∃cf,Du P G0 k g O b cells n cf then
     some (.tuple [],O.setObj b (.row (fy k cells<|jV<|Classical.choose h.2) e false))
    else none
   | _=>none
  | _=>none
 else none
section
variable {P:Program} {G0:Cx}
theorem dA.sub {cells:List V} {ys:List Value} {i k:Nat} (hl:i+k<=cells.length) (hy:ys.length=k) (h:∀j,j<k->∃v y,cells[i+j]? =some v/\ys[j]? =some y/\VR Y v y):dA Y ((cells.drop i).take k) ys:=by
 refine dA.GF (by simp;omega) fun j v hv=>?_
 rw[List.getElem?_take] at hv;split at hv
 ·rename_i hj;rw[List.getElem?_drop] at hv;obtain⟨v',y,h1,d,u⟩:=h j hj;rw[h1] at hv;cases hv;exact⟨y,d,u⟩
 cases hv
theorem MV [Inhabited α] (lt:α->α->Bool) (hO:SWO lt) (d:Array α):(pdq lt d 0 d.size (Lib.bitLen d.size) true true).size=d.size:=
 (pdq_sorts lt hO d 0 d.size (Lib.bitLen d.size) true true (Nat.zero_le _) (nR_ _)<|Or.inl Z).1.1
theorem uk {n:Nat} {cf:Fin (n+1)->Fin (n+1)->Int} (hO:SWO (ltOf cf)):(jV cf).size=n+1:=by
 have:=MV (ltOf cf) hO (Array.ofFn (fun i:Fin (n+1)=>i));rw[Array.size_ofFn] at this;exact this
theorem LU {n:Nat} (x:Fin (n+1)):(Array.ofFn (fun i:Fin (n+1)=>i))[x.val]! =x:=by
 rw[getElem!_pos _ _ (by simp[x.isLt])];simp
theorem He (hm:P.follows .mixedOrders=true) (hC:zJ P G0) (L:SlLaysF0.n6 P φ) {k:Nat} (hk:0<k) (aE:∀w,(isAgg (φ.t 24)).run P w= .ok true w) (zE:∀w,(Go.sizeOf (φ.t 24)).run P w= .ok k w) 
  (eg:∀g,gs g=true->∀args w,(callFunc g args).run P w= .ok (.enter g args) w) {f:Nat} {args:List V} {O':aB} {v:V} (h:zq P G0 (φ.f 6) k gs f args O=some (v,O')) (Y:Ren) (w:World) (xs:Array Value) (hi:Inv Y O w) (hg:GR Y G0) (hx:dA Y args xs.toList):
  Calls P f xs w fun e w'=>∃x Y',e= .returned x/\VR Y' v x/\Inv Y' O' w'/\fb Y O w Y' O' w':=by
 unfold zq at h;split at h
 case isFalse=>cases h
 rename_i hf;subst hf;split at h
 ·
  cases h;rename_i u;obtain⟨x1,r1,e1,h1,h2⟩:=hx.cons_inv;obtain⟨x2,r2,e2,h3,h4⟩:=h2.cons_inv;obtain rfl:=h4.eK;subst e2;have Q:xs= #[x1,x2]:=by apply Array.toList_inj.1;rw[e1]
  subst Q;simp only[VR] at h1;subst h1;refine(AnyF.slices_SortFunc_none L none 0 x2 w).mono fun e w' ⟨he,hw⟩=>?_
  subst hw;exact⟨_,Y,he,by simp only[VR];exact⟨#[],Z,dA.nil⟩,hi,fb.refl _ _ _⟩
 ·rename_i b n c g;split at h
  case h_2=>cases h
  rename_i cells e hb;split at h
  case isFalse=>cases h
  rename_i hc;cases h;obtain⟨⟨hlen,hn,a2,ac,R⟩,S⟩:=hc;have hch:Du P G0 k g O b cells n (Classical.choose S):=Classical.choose_spec S;generalize Classical.choose S=cf at hch⊢;obtain⟨hO,ak⟩:=hch;obtain⟨x1,r1,e1,h1,h2⟩:=hx.cons_inv;obtain⟨x2,r2,e2,h3,h4⟩:=h2.cons_inv;obtain rfl:=h4.eK;subst e2;have Q:xs= #[x1,x2]:=by apply Array.toList_inj.1;rw[e1]
  subst Q
  have a3:x2= .func (.func g) #[] #[]:=by
   simp only[VR] at h3;obtain⟨fi,ca,h5,M,h7⟩:=h3;rw[h5,show fi= #[] from by apply Array.toList_inj.1;rw[M.eK],show ca= #[] from by apply Array.toList_inj.1;rw[h7.eK]]
  subst a3
  have a4:∃l cp,Y b=some l/\x1= .slice (some ⟨l.dz,l.sh,none⟩) (n+1) cp:=by
   cases c with
   | known c=>simp only[VR] at h1;obtain⟨l,h5,M⟩:=h1;exact⟨l,c,h5,M⟩
   | upto sz=>
    simp only[VR] at h1;obtain⟨l,h5,M⟩:=h1;rcases M with ⟨c,M,_⟩ | ⟨M,_⟩
    ·exact⟨l,c,h5,M⟩
    omega
   | least a sz=>cases ac
  obtain⟨l,cp,hl,rfl⟩:=a4;obtain⟨c,fr,T,a5,a9,am,ao⟩:=hi.row hb hl
  have A:∀t,t<(n+1)*k->∃u y,cells[t]? =some u/\c[l.sh+t]? =some y/\VR Y u y/\y.oneCell'=true:=fun t B=>by
   have W:t<cells.length:=by omega
   obtain⟨y,ba,ap⟩:=am t cells[t] (gC W);refine⟨_,y,gC W,ba,ap,lJ (l9 R cells[t] ?_) ap⟩;have:(cells.take ((n+1)*k))[t]? =some cells[t]:=by rw[List.getElem?_take,if_pos B];exact gC W
   exact gB_ this
  let enc:Fin (n+1)->List Value:=fun x=>(List.range k).map fun j=>c[l.sh+(x.val*k+j)]!
  have C:∀x,(enc x).length=k:=fun x=>by simp[enc]
  have X:∀(x:Fin (n+1)) j,j<k->x.val*k+j<(n+1)*k:=fun x j hj=>by
   have:(x.val+1)*k<=(n+1)*k:=nM_ _ (by have:=x.isLt;omega);rw[Nat.add_mul,Nat.one_mul] at this;omega
  have E:∀(x:Fin (n+1)) j,j<k->∃u y,cells[x.val*k+j]? =some u/\(enc x)[j]? =some y/\VR Y u y/\y.oneCell'=true:=fun x j hj=>by
   obtain⟨u,y,N,G,k3,k4⟩:=A _ (X x j hj);refine⟨u,y,N,?_,k3,k4⟩;simp only[enc,gM_,zr_ hj,Option.map_some];rw[getElem!_def,G]
  have h1c:∀x,∀v∈enc x,v.oneCell'=true:=fun x v hv=>by
   obtain⟨j,hj,bb⟩:=List.getElem_of_mem hv;rw[C] at hj;obtain⟨u,y,_,G,_,k4⟩:=E x j hj;rw[gC (by rw[C];exact hj),bb] at G;cases G;exact k4
  have I:∀(d:Array (Fin (n+1))) t,t<d.size*k->(flatK enc k d)[t]! =c[l.sh+((d[t/k]!).val*k+t%k)]!:=fun d t B=>by
   rw[get_flatK _ _ _ _ B];have K:t%k<k:=Nat.mod_lt _ hk;show((List.range k).map _)[t%k]! =_;rw[getElem!_pos _ _ (by simp[K])];simp
  have hH:HoldsK enc k w l.dz l.sh (Array.ofFn (fun i:Fin (n+1)=>i)):=fun t B=>by
   rw[size_flatK,Array.size_ofFn] at B;obtain⟨u,y,N,G,k3,k4⟩:=A t B;have hdiv:t/k<n+1:=Nat.div_lt_of_lt_mul (by rw[Nat.mul_comm];exact B);refine⟨?_,frozen?_of_heap T _<|ao Z _ oM⟩;rw[cell?_of_heap T,I _ _ (by rw[Array.size_ofFn];exact B)];rw[show(Array.ofFn (fun i:Fin (n+1)=>i))[t/k]! =⟨t/k,hdiv⟩ from LU ⟨t/k,hdiv⟩];dsimp only;rw[Nat.div_add_mod' t k,G,getElem!_def,G];rfl
  have hblk:=hi.dz b l hl
  have hW:∀(m:Nat) (os:Array Obj) (dk:Array (Fin (n+1))),Inv Y (Ol O b) (sortWorldK enc k w l.dz l.sh m dk os):=fun m os dk=>by
   refine hi.Ol hb Z hl ?_ fun r hr hne=>?_
   ·show w.heap.size<=((w.heap.modify l.dz _)++os).size;simp
   show((w.heap.modify l.dz _)++os)[r]? =_;rw[Array.getElem?_append_left (by simpa using hr),Array.getElem?_modify,if_neg<|Ne.symm hne]
  have aa:CmpLays P g #[] enc k cf l.dz l.sh (Array.ofFn (fun i:Fin (n+1)=>i)).size w:=fun m os dk _ x y=>by
   have hv:∀z:Fin (n+1),VR Y (HN k cells z.val) (.agg (enc z).toArray):=fun z=>by
    unfold HN;simp only[VR];refine⟨_,Z,dA.sub ?_ (C z) fun j hj=>?_⟩
    ·have:=X z (k-1) oM;omega
    obtain⟨u,y,N,G,k3,_⟩:=E z j hj;exact⟨u,y,N,G,k3⟩
   refine(vG hm hC (hW m os dk) hg (wY _ _) (dA.cons (hv x)<|dA.cons (hv y) dA.nil)<|ak x y).mono fun e w' ⟨v,z,_,Y',he,bc,ar,bd⟩=>?_
   subst bd;simp only[VR] at ar;subst ar;exact⟨he,bc.grown⟩
  have a0:(Array.ofFn (fun i:Fin (n+1)=>i)).size=n+1:=Array.size_ofFn;have hcall:=AnyQ.slices_SortFunc_eq L k aE zE enc C h1c cf hO g #[] l.dz l.sh cp (Array.ofFn (fun i:Fin (n+1)=>i)) w (eg g a2) aa hH hblk (by rw[a0];exact hn);rw[a0] at hcall;refine hcall.mono fun e' w' ⟨he,nd,os,be⟩=>?_
  subst be;change e'=_ at he;have hds:=uk hO;change∃x Y',e'= .returned x/\VR Y' (.tuple []) x/\Inv Y' (O.setObj b (.row (fy k cells<|jV cf) e false)) (sortWorldK enc k w l.dz l.sh nd (jV cf) os)/\fb Y O w Y' (O.setObj b (.row (fy k cells<|jV cf) e false)) (sortWorldK enc k w l.dz l.sh nd (jV cf) os);generalize jV cf=d at hds⊢;refine⟨_,Y,he,by simp only[VR];exact⟨#[],Z,dA.nil⟩,?_⟩
  let w1:World:=putRowK enc k (Sort.ahead w nd) l.dz l.sh d
  have bf:w1.heap[l.dz]? =some (.cells (putCells id l.sh (flatK enc k d) c) e fr):=by
   show(w.heap.modify l.dz _)[l.dz]? =_;rw[Array.getElem?_modify,if_pos Z,T];rfl
  have ab:(fy k cells d).length=cells.length:=by
   unfold fy;rw[lA_,lM_,List.length_range,lD_,hds];omega
  have a1:gF Y l (.row (fy k cells d) e false) (.cells (putCells id l.sh (flatK enc k d) c) e fr):=by
   refine⟨_,fr,Z,by unfold putCells;rw[Array.size_mapIdx];exact a5,by rw[ab];exact a9,fun t u hu=>?_,ao⟩;unfold putCells;rw[Array.getElem?_mapIdx,size_flatK,hds]
   by_cases B:t<(n+1)*k
   ·have hdiv:t/k<n+1:=Nat.div_lt_of_lt_mul (by rw[Nat.mul_comm];exact B);have K:t%k<k:=Nat.mod_lt _ hk;obtain⟨u',y,N,G,k3,_⟩:=A _ (X (d[t/k]!) (t%k) K);obtain⟨_,y0,_,bg,_,_⟩:=A t B
    have bi:u=u':=by
     unfold fy at hu;rw[hds,gL_ (by rw[lM_,List.length_range];exact B),gM_,zr_ B] at hu;simp only[Option.map_some,oJ_] at hu;rw[<-hu,List.getD_eq_getElem?_getD,N];rfl
    subst bi;refine⟨y,?_,k3⟩;rw[bg];simp only[Option.map_some,id];rw[if_pos ⟨by omega,by omega⟩,Nat.add_sub_cancel_left,I d t (by rw[hds];exact B),getElem!_def,G]
   have bl:cells[t]? =some u:=by
    unfold fy at hu;rw[hds,gR_ (by rw[lM_,List.length_range];omega),lM_,List.length_range,List.getElem?_drop] at hu;rwa[Nat.add_sub_cancel' oM] at hu
   obtain⟨y,N,G⟩:=am t u bl;refine⟨y,?_,G⟩;rw[N];simp only[Option.map_some];rw[if_neg oM]
  have hch:=hi.change (w':=w1) (o':=.row (fy k cells d) e false) hb hl Z Z bf a1 (fun r hr=>by
   show(w.heap.modify l.dz _)[r]? =_;rw[Array.getElem?_modify,if_neg<|Ne.symm hr]) (by show(w.heap.modify l.dz _).size=_;simp) Z Z ⟨Z,Nat.le_add_right _ _⟩
  have bm:iN w1 (Go.Sort.grow w1 os):=⟨Z,⟨Z,nR_ _⟩,Z,by show w1.heap.size<=(w1.heap++os).size;rw[Array.size_append];omega,fun r hr=>by show(w1.heap++os)[r]? =_;rw[Array.getElem?_append_left hr]⟩;obtain⟨i2,s2⟩:=bm.inv hch.1;exact⟨i2,hch.2.trans s2⟩
 cases h
end
end Go.Ev
namespace Go.Ev
variable [Env]
variable {bd sa:Code} {D_:List DE} {ca fi:List V} {tm:PT V} {bm:Pos}
section
variable {P:Program} {G:Cx} {n:Nat} {t:PT V} {O:aB} {K:KP} {L:Own} {Q:Ex->PT V->aB->Prop} {ops:Array Oper} {o:Oper} {l:List Oper}
def qQ (P:Program) (G:Cx) (b:Pos) (args:List V) (O:aB) (R:V->aB->Prop):Prop:=
 ∃(K:Nat) (v:V) (O':aB),(∀k,K<=k->mG (eI P G k) b args O= .ret v O')/\R v O'
def jy (st:LoopState) (tm:PT V) (m:Nat) (ps:List Nat) (sa bd:Code) (bm:Pos):cN:=.loop st none tm m ps sa bd bm
theorem Lv {b:Pos} {args:List V} {R:V->aB->Prop} {m:Nat} {ps:List Nat} {t:PT V} (hl:O.m.get b=some (jy .ready tm m ps sa bd bm)) (hp:vj m ps args tm=some t)
  (h:Ev P G sa m t O fun e z d=>e= .normal/\d.m.get b=some (jy .ready tm m ps sa bd bm)/\Ev P G bd m z (d.setObj b<|jy .busy tm m ps sa bd bm) fun e _ u=>e= .normal/\u.m.get b=some (jy .busy tm m ps sa bd bm)/\R (.bool true) (u.setObj b<|jy .ready tm m ps sa bd bm)):qQ P G b args O R:=by
 obtain⟨B,e1,z,d,h1,rfl,C,E,e2,t2,u,I,rfl,A,h5⟩:=h;refine⟨max B E,.bool true,_,fun k hk=>?_,h5⟩;unfold mG;rw[hl];dsimp only[jy];rw[hp];dsimp only;rw[h1 [] (some b) k oM];dsimp only;rw[C];dsimp only[jy];have:=I [] (some b) k oM;unfold jy at this A;rw[this];dsimp only[AQ];simp only[cond_false];rw[A];rfl
theorem Qy {ev:Operand->Option V} {c:Call} {f:Operand} {b:Pos} {args:List V} (d:c.callee= .value f) (hf:ev f=some (.yield b)) (u:jv ev c.args.toList=some args):eo P G ev O (.call c)= .round b args O:=by
 refine lQ (by simp[kindOf,d]) ?_;simp only[gD,d,hf,u,Ah]
theorem Ph {b:Pos} {args:List V} {t':V->PT V} {R:V->aB->Prop} (hw:bR ops t o=some true) (hv:eo P G (bI G t) O o.op= .round b args O) (hp:∀v,dE t n o.dst v=some (t' v))
  (u:qQ P G b args O R) (h:∀v O',R v O'->bZ P G ops n l (t' v) O' Q):bZ P G ops n (o::l) t O Q:=by
 obtain⟨z,v,O',h1,A⟩:=u;obtain⟨B,e,C,E,I,M⟩:=h v O' A;refine⟨max z B,e,C,E,fun d k hk=>?_,M⟩;show iy P G (eI P G k) true ops n o t O (oY P G (eI P G k) ops n d l)=_;have e1:=h1 k oM;have e2:=I d k oM;unfold iy;rw[hw];dsimp only;rw[hv];dsimp only[lf];rw[e1];dsimp only;rw[hp];exact e2
def Oe (P:Program) (G:Cx) (c:Code) (n:Nat) (t:PT V) (O:aB) (Q:List DE->Ex->PT V->aB->Prop):Prop:=
 ∃(K:Nat) (D_:List DE) (e:Ex) (t':PT V) (O':aB),(∀d k,K<=k->eI P G k c t n d none O= .ok e t' (D_++d) O')/\Q D_ e t' O'
theorem xP {c:Code} {Q:List DE->Ex->PT V->aB->Prop} (h:Ev P G c n t O (Q [])):Oe P G c n t O Q:=by
 obtain⟨K,e,t',O',h1,u⟩:=h;exact⟨K,[],e,t',O',fun d k hk=>h1 d none k hk,u⟩
def NP (P:Program) (G:Cx) (n:Nat) (b:Code) (Q:List DE->Ex->PT V->aB->Prop) (D_:List DE) (e:Ex) (t:PT V) (O:aB):Prop:=
 match e with
 | .normal=>Oe P G b n t O fun D2=>Q (D2++D_)
 | e=>Q D_ e t O
theorem tG {a b:Code} {Q:List DE->Ex->PT V->aB->Prop} (h:Oe P G a n t O (NP P G n b Q)):Oe P G (.seq a b) n t O Q:=by
 obtain⟨K,D_,e,t',O',h1,u⟩:=h
 have step:∀d k,K<=k->eI P G (k+1) (.seq a b) t n d none O=wC (.ok e t' (D_++d) O') (fun t d O=>eI P G k b t n d none O):=fun d k hk=>by
  show wC (eI P G k a t n d none O) (fun t d O=>eI P G k b t n d none O)=_;rw[h1 d k hk]
 cases e with
 | normal=>
  obtain⟨z,A,e2,B,C,E,I⟩:=u;refine⟨max K z+1,A++D_,e2,B,C,fun d k hk=>?_,I⟩;obtain⟨j,rfl⟩:∃j,k=j+1:=⟨k-1,by omega⟩;rw[step d j oM,lQ_];exact E (D_++d) j oM
 | _=>
  refine⟨K+1,D_,_,t',O',fun d k hk=>?_,u⟩;obtain⟨j,rfl⟩:∃j,k=j+1:=⟨k-1,by omega⟩;rw[step d j oM];rfl
theorem lO {b:Code} {Q:List DE->Ex->PT V->aB->Prop} (h:Oe P G b n t O fun d=>Q (d++D_)):NP P G n b Q D_ .normal t O:=h
theorem Bl {b:Code} {Q:List DE->Ex->PT V->aB->Prop} (h:Q D_ .ret t O):NP P G n b Q D_ .ret t O:=h
theorem Jq {id:Nat} {b:Code} {Q:List DE->Ex->PT V->aB->Prop} (h:Oe P G b n t O fun D_ e t' O'=>e= .normal/\Q D_ .normal t' O'):Oe P G (.block id b) n t O Q:=by
 obtain⟨K,D_,e,t',O',h1,rfl,u⟩:=h;refine⟨K+1,D_,.normal,t',O',fun d k hk=>?_,u⟩;obtain⟨j,rfl⟩:∃j,k=j+1:=⟨k-1,by omega⟩;show sB id (eI P G j b t n d none O)=_;rw[h1 d j oM];rfl
theorem Jr {g:Operand} {ps:Array Tmp} {f:Nat} {Q:List DE->Ex->PT V->aB->Prop} (ar:H O K L) (C:bI G t g=some (.func f fi ca)) (u:lI P f=true)
  (h:∀(bm bl:Pos) (A:aB),H A K ((bl,jy .ready t n ps.toList sa bd bm)::(bm,.mark)::L)->bh P G f (fi++(.yield bl::ca)) A fun _ z=>z.m.get bl=some (jy .ready t n ps.toList sa bd bm)/\Q [.mark bm] .normal t (z.setObj bl<|jy .exhausted t n ps.toList sa bd bm)):Oe P G (.rangeFunc g ps sa bd) n t O Q:=by
 obtain⟨E,v,z,h1,B,I⟩:=h O.next (O.alloc .mark).next ((O.alloc .mark).alloc<|jy .ready t n ps.toList sa bd O.next) ((ar.alloc .mark).alloc _);refine⟨E+1,[.mark O.next],.normal,t,_,fun d k hk=>?_,I⟩;obtain⟨j,rfl⟩:∃j,k=j+1:=⟨k-1,by omega⟩;show vk P G (eI P G j) g ps sa bd t n d none O=_;unfold vk yI;dsimp only;rw[C];dsimp only;rw[u,ep];have e1:=h1 j oM;unfold jy at e1 B;simp only[cond_true];rw[e1];dsimp only;unfold FL;rw[B];rfl
def Vc (P:Program) (fn:Func) (R:V->aB->Prop) (D_:List DE) (e:Ex) (t:PT V) (O:aB):Prop:=
 (e= .normal∨e= .ret)/\match D_ with
  | []=>∃v,e7 P fn t O=some v/\R v O
  | [.mark b]=>O.m.get b=some .mark/\∃v,e7 P fn t (O.setObj b .dead)=some v/\R v (O.setObj b .dead)
  | _=>False
theorem D3 (z:Plain G) {f:Nat} {fn:Func} {c:Code} {args:List V} {R:V->aB->Prop} (hf:P.funcs[f]? =some fn) (hb:fn.body=some c) (C:rS fn.ntmps args=some t)
  (h:Oe P G c fn.ntmps t O (Vc P fn R)) (hk:Nat.beq f L5=false:=by rfl) (hl:JS f=false:=by rfl) (E:NG f=false:=by rfl):bh P G f args O R:=by
 obtain⟨K,D_,e,t',O',h1,he,B⟩:=h
 have key:∃O'' v,(∀k,uU P G (eI P G k) D_ .ret O'=some (.ret,O''))/\e7 P fn t' O''=some v/\R v O'':=by
  match D_,B with
  | [],⟨v,u,d⟩=>exact⟨O',v,fun _=>Z,u,d⟩
  | [.mark b],⟨u,v,d,h5⟩=>
   refine⟨_,v,fun k=>?_,d,h5⟩;show(match O'.m.get b with | some .mark=>some (Md.ret,O'.setObj b .dead) | _=>none)=_;rw[u]
 obtain⟨O'',v,u,d,h5⟩:=key;refine⟨K,v,O'',fun k A=>?_,h5⟩;unfold kP;rw[z.h1 _ _ _ E];dsimp only;rw[z.h2 _ _ hl];dsimp only;rw[z.h4];dsimp only;rw[z.h5 _ hk];simp only[cond_false];unfold nU;rw[hf];dsimp only;rw[hb,C];dsimp only;have:=h1 [] k A;rw[zk_] at this;rw[this];rcases he with rfl | rfl<;>
 ·dsimp only;unfold zP;rw[u k];dsimp only;rw[d]
theorem Ge {g:Operand} {ps:Array Tmp} {f:Nat} {Q:List DE->Ex->PT V->aB->Prop} (ar:H O K L) (I:bI G t g=some (.func f fi ca)) (u:lI P f=true)
  (h:∀(bm bl:Pos) (d:aB),H d K ((bl,jy .ready t n ps.toList sa bd bm)::(bm,.mark)::L)->bh P G f (fi++(.yield bl::ca)) d fun _ B=>∃z A,H B z ((bl,jy .ready t n ps.toList sa bd bm)::A)/\∀C,H C z A->Q [.mark bm] .normal t C):Oe P G (.rangeFunc g ps sa bd) n t O Q:=
 Jr ar I u fun bm bl d h1=>(h bm bl d h1).mono fun _ B ⟨z,A,E,M⟩=>⟨E.get 0 Z,M _ (E.ui _).pop⟩
theorem H.kY {d:aB} {M u:Own} (h0:H d K (M++u)) (h:H O (K.iO M) L):H O K (M++L) where
 kept b o hb:=by
  obtain⟨h1,z,A⟩:=h.kept b o (.inl hb);refine⟨h1,z,fun e he=>?_⟩;rcases List.mem_append.1 he with he | he
  ·exact(h0.kept b o hb).2.2 e (List.mem_append_left _ he)
  exact A e he
 own e he:=by
  rcases List.mem_append.1 he with he | he
  ·exact⟨(h.kept e.1 e.2 (.inr he)).1,(h.kept e.1 e.2 (.inr he)).2.1⟩
  exact h.own e he
 ne:=List.pairwise_append.2 ⟨(List.pairwise_append.1 h0.ne).1,h.ne,fun a B b hb e=>(h.kept a.1 a.2 (.inr B)).2.2 b hb e.symm⟩
end
end Go.Ev
namespace Go.Ev
variable [Env] {α:Type} {E:Nat} {gs:Nat->Bool} {M:Own} {u:V} {R:α->List V->Prop} {c:α->α->Int}
open Go.Proofs Go.Sort
section
variable {O:aB} {K K':KP} {L:Own}
end
def KP.ro (K:KP):KP:=fun b o=>∃o',K b o'/\PU o'=some o
theorem H.ro {O:aB} {K:KP} {L:Own} {b:Nat} {o:cN} (h:H O K ((b,o)::L)):H (Ol O b) K.ro [] where
 kept b' o' hb:=by
  obtain⟨u,h1,z⟩:=hb;obtain⟨d,A,B⟩:=h.kept b' u h1;refine⟨d,?_,fun e he=>by cases he⟩;show(Np O b O.next).get b'=some o';rw[CO,if_pos ⟨d,fun e=>B _ (mS_ ..) e.symm⟩,A];exact z
 own e he:=by cases he
 ne:=List.Pairwise.nil
theorem bO.ro {α:Type} {K:KP} {m:Nat} {R:α->List V->Prop} {l:List α} {v:V} (h:bO K m R l v):bO K.ro m R l v:=by
 rcases h with h | ⟨b,off,c,cells,e,ro,h1,d,u,z⟩
 ·exact .inl h
 exact .inr ⟨b,off,c,cells,e,true,h1,d,⟨_,u,Z⟩,z⟩
theorem bO.VO {K:KP} {m n:Nat} {l:List (List α)} {v:V} (h:bO K n (RL K m R) l v):bO K.ro n (RL K.ro m R) l v:=by
 rcases h with h | ⟨b,off,c,cells,e,ro,h1,d,u,z,h5,A⟩
 ·exact .inl h
 exact .inr ⟨b,off,c,cells,e,true,h1,d,⟨_,u,Z⟩,z,h5,fun i x hx=>let ⟨v,e,h⟩:=A i x hx;⟨v,e,h.ro⟩⟩
theorem dS.ro {K:KP} {g:XG} {a b c d:V} (h:dS K g a b c d):dS K.ro g a b c d:=⟨h.init.ro,h.threads.VO,h.from_.VO,h.order.VO⟩
theorem zX {m:Nat} {cells:List V} {n:Nat} {d:Array (Fin (n+1))} (hm:0<m) (hd:d.size=n+1) (hl:cells.length=(n+1)*m) {i:Nat} (hi:i<n+1):
  ((fy m cells d).drop (i*m)).take m=(cells.drop ((d[i]!).val*m)).take m:=by
 have hx:(d[i]!).val<n+1:=(d[i]!).isLt;have u:(i+1)*m<=(n+1)*m:=nM_ _ hi;have z:((d[i]!).val+1)*m<=(n+1)*m:=nM_ _ hx;rw[Nat.add_mul,Nat.one_mul] at u z;refine zf_ fun j=>?_
 rw[List.getElem?_take,List.getElem?_take]
 by_cases hj:j<m
 ·rw[if_pos hj,if_pos hj,List.getElem?_drop,List.getElem?_drop];unfold fy;rw[hd,gL_ (by rw[lM_,List.length_range];omega),gM_,zr_ oM];have e1:(i*m+j)/m=i:=by rw[Nat.mul_comm,Nat.mul_add_div hm,Nat.div_eq_of_lt hj];rfl
  have e2:(i*m+j)%m=j:=by rw[Nat.mul_comm,Nat.mul_add_mod,Nat.mod_eq_of_lt hj]
  simp only[Option.map_some,e1,e2];rw[List.getD_eq_getElem?_getD,gC oM];rfl
 rw[if_neg hj,if_neg hj]
section
variable {P:Program} {G G0:Cx}
theorem Ls {f:Nat} {args:List V} {O O':aB} {v:V} {R:V->aB->Prop} (hk:G.Gv f args O=some (v,O')) (h:R v O'):bh P G f args O R:=by
 refine⟨0,v,O',fun k _=>?_,h⟩;unfold kP;rw[hk]
theorem OX {m f g:Nat} (hm:0<m) (hO:SWO (fun x y=>decide (c x y<0))) (hS:∀a s,G.Gv f a s=zq P G0 f m gs f a s) (aa:gs g=true)
  (C:∀x vs,R x vs->cM vs=true) {l:List α} {L:Own} {O:aB} {K:KP} (h:cy m E R l u M) (hne:l≠[]∨u= .av) (ar:H O K (M++L))
  (N:∀σ2,H σ2 K.ro []->∀x y vx vy,R x vx->R y vy->bh P G0 g [.agg vx,.agg vy] σ2 fun v _=>v= .int .i64 (c x y)):
  bh P G f [u,.func g [] []] O fun v O'=>v= .tuple []/\∃l' M',l'.Perm l/\l'.Pairwise (fun x y=>decide (c y x<0)=false)/\cy m E R l' u M'/\H O' K (M'++L):=by
 rcases h with ⟨rfl,rfl,rfl⟩ | ⟨b,cp,cells,e,rfl,rfl,Q,X,h5,h6⟩
 ·refine Ls (v:=.tuple []) (O':=O) (by rw[hS];unfold zq;rw[if_pos Z]) ⟨Z,[],[],List.Perm.refl _,List.Pairwise.nil,.inl ⟨Z,Z,Z⟩,ar⟩
 obtain⟨n,hn⟩:∃n,l.length=n+1:=by
  rcases hne with hne | hne
  ·cases l with
   | nil=>exact absurd Z hne
   | cons x l=>exact⟨l.length,Z⟩
  cases hne
 rw[hn] at Q h5 h6⊢;have hb:O.m.get b=some (.row cells e false):=ar.get 0 Z
 let xs:Fin (n+1)->α:=fun i=>l[i.val]'(by rw[hn];exact i.isLt)
 have B:∀i:Fin (n+1),l[i.val]? =some (xs i):=fun i=>gC _
 let cf:Fin (n+1)->Fin (n+1)->Int:=fun i j=>c (xs i) (xs j)
 have hlt:∀i j,ltOf cf i j=decide (c (xs i) (xs j)<0):=fun i j=>Z
 have I:SWO (ltOf cf):=⟨fun x=>by rw[hlt];exact hO.irrefl _,fun x y z h1 h2=>by rw[hlt] at*;exact hO.trans _ _ _ h1 h2,fun x y z h1 h2=>by rw[hlt] at*;exact hO.ntrans _ _ _ h1 h2⟩;have S:H (Ol O b) K.ro []:=ar.ro;have hC:Du P G0 m g O b cells n cf:=⟨I,fun x y=>N _ S _ _ _ _ (X _ _<|B x) (X _ _<|B y)⟩;have T:KY cp=true:=by rcases h5 with rfl | ⟨rfl,_⟩<;>rfl
 have ab:cM (cells.take ((n+1)*m))=true:=by
  rw[<-Q,List.take_length]
  have key:∀v∈cells,eB v=true:=fun v hv=>by
   obtain⟨t,ht,hv⟩:=List.getElem_of_mem hv;have hq:t/m<n+1:=Nat.div_lt_of_lt_mul (by rw[Nat.mul_comm,<-Q];exact ht);have h7:=C _ _ (X _ _<|B ⟨t/m,hq⟩);refine l9 h7 v<|gB_ (i:=t%m) ?_;rw[List.getElem?_take,if_pos<|Nat.mod_lt _ hm,List.getElem?_drop,Nat.div_add_mod',gC ht,hv]
  exact xm key
 have A:((n+1)*m<=cells.length/\n+1<4611686018427387904/\gs g=true/\KY cp=true/\cM (cells.take ((n+1)*m))=true)/\∃cf,Du P G0 m g O b cells n cf:=⟨⟨by omega,by omega,aa,T,ab⟩,cf,hC⟩
 have hk:G.Gv f [.slice b 0 (n+1) cp,.func g [] []] O=some (.tuple [],O.setObj b (.row (fy m cells<|jV<|Classical.choose A.2) e false)):=by
  rw[hS];unfold zq;rw[if_pos Z];simp only[hb];rw[dif_pos A]
 have ac:Du P G0 m g O b cells n (Classical.choose A.2):=Classical.choose_spec A.2
 have W:Classical.choose A.2=cf:=by
  funext i j;obtain⟨k1,v1,s1,e1,r1⟩:=ac.2 i j;obtain⟨k2,v2,s2,e2,r2⟩:=hC.2 i j;have a1:=e1 (max k1 k2) oM;have a2:=e2 (max k1 k2) oM;rw[a1] at a2;cases a2;have r3:=r1.symm.trans r2;injection r3
 rw[W] at hk;have hsz:=uk I;have hsorts:=pdq_sorts (ltOf cf) I (Array.ofFn (fun i:Fin (n+1)=>i)) 0 (n+1) (Lib.bitLen (n+1)) true true (Nat.zero_le _) (by rw[Array.size_ofFn];exact nR_ _) (Or.inl Z);change PermIn 0 (n+1) _ (jV cf)/\SortedIn (ltOf cf) 0 (n+1) (jV cf) at hsorts;generalize jV cf=d at hk hsz hsorts;obtain⟨⟨_,_,hp⟩,hs⟩:=hsorts
 have ak:d.toList.Perm (List.ofFn fun i:Fin (n+1)=>i):=by
  have e1:d.extract 0 (n+1)=d:=by have:=Array.extract_size (xs:=d);rwa[hsz] at this
  have e2:(Array.ofFn (fun i:Fin (n+1)=>i)).extract 0 (n+1)=Array.ofFn (fun i:Fin (n+1)=>i):=by
   have:=Array.extract_size (xs:=Array.ofFn (fun i:Fin (n+1)=>i));rwa[Array.size_ofFn] at this
  rw[e1,e2] at hp;simpa using hp
 refine Ls hk ⟨Z,d.toList.map xs,[(b,.row (fy m cells d) e false)],?_,?_,?_,ar.ui _⟩
 ·refine(ak.map xs).trans ?_
  have:(List.ofFn fun i:Fin (n+1)=>i).map xs=l:=by
   refine zf_ fun i=>?_
   rw[gM_,List.getElem?_ofFn]
   by_cases hi:i<n+1
   ·rw[dif_pos hi];exact(B ⟨i,hi⟩).symm
   rw[dif_neg hi,gN_ oM];rfl
  rw[this]
 ·refine List.pairwise_map.2<|List.pairwise_iff_getElem.2 fun i j hi hj am=>?_;have ao:i<d.size:=by simpa using hi
  have ap:j<d.size:=by simpa using hj
  have:=hs i j (Nat.zero_le _) am oM;rw[getElem!_pos _ j ap,getElem!_pos _ i ao] at this;exact this
 have hlen:(d.toList.map xs).length=n+1:=by rw[lM_,Array.length_toList,hsz]
 refine .inr ⟨b,cp,fy m cells d,e,by rw[hlen],Z,?_,fun i x hx=>?_,by rw[hlen];exact h5,by rw[hlen];omega⟩
 ·unfold fy;rw[lA_,lM_,List.length_range,lD_,hsz,hlen,Q];omega
 have hi:i<n+1:=by rw[<-hlen];exact(gA.1 hx).1
 rw[zX hm hsz Q hi];refine X _ _ ?_;rw[B (d[i]!)];rw[gM_,aT_,aG_ oM] at hx;rw[getElem!_pos _ i oM];exact hx
end
end Go.Ev
namespace Go.Ev
variable [Env]
section
variable {α:Type} {c:α->α->Int}
end
structure WC (K:KP) (ls:List XG) (cells:List V):Prop where
 len:cells.length=ls.length*4
 at_:∀(i:Nat) (x:XG),ls[i]? =some x->∃a b c d,(cells.drop (i*4)).take 4= [a,b,c,d]/\dS K x a b c d
def RG (K:KP) (g:XG) (vs:List V):Prop:=∃a b c d,vs= [a,b,c,d]/\dS K g a b c d
theorem RG.mono {K K':KP} (hk:KP.le K K') {g:XG} {vs:List V} (h:RG K g vs):RG K' g vs:=by
 obtain⟨a,b,c,d,h1,u⟩:=h;exact⟨a,b,c,d,h1,u.mono hk⟩
theorem RG.leaf {K:KP} (g:XG) (vs:List V) (h:RG K g vs):cM vs=true:=by
 obtain⟨a,b,c,d,rfl,u⟩:=h;exact aj u.init.leaf.2<|aj u.threads.leaf.2<|aj u.from_.leaf.2<|aj u.order.leaf.2 aC
section
variable {K:KP} {ls:List XG} {cells:List V}
end
section
variable {P:Program} {G:Cx} {ev:Operand->Option V} {O:aB} {K:KP} {L:Own}
end
section
variable {P:Program} {G:Cx} {n:Nat} {t:PT V} {O:aB} {K:KP} {L:Own} {Q:Ex->PT V->aB->Prop} {ops:Array Oper} {o:Oper} {l:List Oper}
end
theorem HP {x y:Int} (h:F x y=true):x=y:=by rw[cK] at h;simpa using h
theorem Ln {x y:Int} (h:F x y=false):x≠y:=by rw[cK] at h;simpa using h
variable {α:Type}
theorem e6 {l:List α} {i:Nat} {x:α} (h:l[i]? =some x):l.take (i+1)=l.take i++[x]:=by rw[zb_,h];rfl
variable {G:Cx} {K:KP} {O:aB} {L:Own} {g:XG} {X v2:V}
theorem Ru {x y:Int} (h:cL (F x y)=false):x=y:=HP (cD h)
theorem Fo (W:Plain G) {l1 l2:List XG} (h1:bO K 4 (RG K) l1 X) (h2:bO K 4 (RG K) l2 v2) (ar:H O K L):
  EC G 7 [X,v2] O fun v O'=>(∃q,v= .bool q/\(q=true↔l1=l2))/\H O' K L:=by
 refine V9 W Tryz.func7 Z<|UE 9 Z<|J Z (W5 h1 Z Z Z (e:=52) Z) Z<|vQ 1 Z<|J Z (W5 h2 Z Z Z (e:=52) Z) Z<|Vy 3 Z<|aG Z (fun B=>?_) (fun B=>?_)
 ·refine Vx 7 Z ?_;exact aA Z Z ⟨⟨_,Z,fun h=>absurd h (by decide),fun e=>absurd (congrArg (fun x=>Int.ofNat x.length) e) (Ln<|cY B)⟩,ar⟩
 have ap:l1.length=l2.length:=iJ_ (Ru B);refine TC 9 Z ?_;obtain⟨LL1,ar,hLL1⟩:=ar.named;refine bk ([4,5]++rg 11 16) (fun j t O=>∃(i:Nat),(j+i=l1.length/\l1.take i=l2.take i)/\t.get 5=some (nI i)/\H O K LL1) (l1.length) ⟨0,⟨Z,Z⟩,Z,ar⟩ ?_;clear ar;intro j4 t O ak hI;obtain⟨i,⟨aE,z⟩,S,ar⟩:=hI;subst hLL1;obtain⟨oo,rfl⟩:=ak.q1 S Z;refine UE 5 Z<|J Z (W5 h1 Z Z Z (e:=52) Z) Z<|Vy 3 Z<|aG Z (fun u=>?_) (fun u=>?_)
 ·refine SE 5 Z<|aL (l:=zp [0,1,2,3,4,5,6,7,8,9]) U U<|Wj 2 Z ?_;obtain⟨a0,A,aa⟩:=di u;refine WW (e:=52) (m:=4) h1 A Z Z Z Z Z (fun a1 ab E ac I=>?_);have hr19':=I;obtain⟨a2,a3,a4,a5,rfl,M⟩:=hr19';refine ah Z Z (W8 ar E Z Z) Z<|Wj 2 Z ?_;obtain⟨a9,d⟩:=dc (show i<l2.length by have:=aM u;omega);refine WW (e:=52) (m:=4) h2 d Z Z Z Z Z (fun ba am N ao Q=>?_);have hr23':=Q;obtain⟨bb,bc,bd,be,rfl,R⟩:=hr23';refine ah Z Z (W8 ar N Z Z) Z<|eL Z Z (W2 Z Z Z) (fun _=>Z) (Qn W ar M R) (fun O ar=>?_);refine⟨aT,?_⟩;refine ah Z Z (dW Z) Z<|VB 2 Z<|aG Z (fun C=>?_) (fun C=>?_)
  ·refine Wf 6 Z<|aP<|aH<|bX<|aP<|aH (?_);exact aA Z Z ⟨⟨_,Z,fun h=>absurd h (by decide),fun e=>by subst e;rw[A] at d;cases d;exact absurd C (by rw[dt.2 Z];decide)⟩,ar⟩
  refine aI (az (Wd 5 Z (aD ⟨j4-1,(by have:=aM u;omega),oF,i+1,⟨by have:=aM u;omega,by rw[e6 A,e6 d,z,dt.1<|cD C]⟩,cI<|aX (by have:=h1.cS;omega),ar⟩)))
 refine UH 3 Z<|aN<|Wf 6 Z ?_
 exact aA Z Z ⟨⟨_,Z,fun _=>by
   have T:l1.length<=i:=bK u;have e1:=tL_ T;have e2:=tL_ (show l2.length<=i by omega);rw[e1,e2] at z;exact z,fun _=>Z⟩,ar⟩
variable {ls:List (List bS)} {q:Nat}
theorem QI {α β:Type} {f:α->List β}:∀{l:List α} (i:Nat),((l.take i).flatMap f).length<=(l.flatMap f).length
 | [],_=>by simp
 | x::l,0=>by simp
 | x::l,i+1=>by
  show((x::l.take i).flatMap f).length<=_;rw[List.flatMap_cons,List.flatMap_cons,lA_,lA_];have:=QI (f:=f) (l:=l) i;omega
theorem vS {α β:Type} {f:α->List β} {l:List α} {i:Nat} {x:α} (h:l[i]? =some x):((l.take i).flatMap f).length+(f x).length<=(l.flatMap f).length:=by
 have:=QI (f:=f) (l:=l) (i+1);rw[gg h,lA_] at this;exact this
theorem Gj {α β:Type} {f:α->List β} (hf:∀x,1<=(f x).length):∀{l:List α},l.length<=(l.flatMap f).length
 | []=>Nat.zero_le _
 | x::l=>by
  have:=Gj hf (l:=l);have:=hf x;rw[List.flatMap_cons,lA_,zc_];omega
structure mQ (g:XG):Prop where
 n:6+g.threads.length+(g.threads.flatMap fun r=>r.flatMap cm.ints).length+(g.from_.flatMap eY).length+(g.order.flatMap eY).length+g.init.length<=1048576
theorem HO (r:List bS):1<=(eY r).length:=by unfold eY;rw[zc_];omega
theorem tD (r:List bS):(eY r).length=1+r.length*2:=by
 unfold eY;rw[zc_]
 have:∀l:List bS,(l.flatMap bS.ints).length=l.length*2:=fun l=>by
  induction l with
  | nil=>rfl
  | cons x l ih=>rw[List.flatMap_cons,lA_,ih,zc_,show x.ints.length=2 from Z];omega
 rw[this];omega
theorem Lz (l:List cm):(l.flatMap cm.ints).length=l.length*5:=by
 induction l with
 | nil=>rfl
 | cons x l ih=>rw[List.flatMap_cons,lA_,ih,zc_,show x.ints.length=5 from Z];omega
theorem mQ.t {g:XG} (h:mQ g):g.threads.length<=1048570:=by have:=h.n;omega
theorem mQ.f {g:XG} (h:mQ g):g.from_.length<=1048570:=by have:=h.n;have:=Gj HO (l:=g.from_);omega
theorem mQ.o {g:XG} (h:mQ g):g.order.length<=1048570:=by have:=h.n;have:=Gj HO (l:=g.order);omega
theorem mQ.i {g:XG} (h:mQ g):g.init.length<=1048570:=by have:=h.n;omega
theorem mQ.r {g:XG} (h:mQ g) (l:List cm) (hl:l∈g.threads):l.length<=1048570:=by
 obtain⟨i,hi⟩:=gO_ hl;have:=vS (f:=fun r:List cm=>r.flatMap cm.ints) hi;rw[Lz] at this;have:=h.n;omega
theorem mQ.fr {g:XG} (h:mQ g) (l:List bS) (hl:l∈g.from_):l.length<=1048570:=by
 obtain⟨i,hi⟩:=gO_ hl;have:=vS (f:=eY) hi;rw[tD] at this;have:=h.n;omega
theorem mQ.Vp {g:XG} (h:mQ g) (l:List bS) (hl:l∈g.order):l.length<=1048570:=by
 obtain⟨i,hi⟩:=gO_ hl;have:=vS (f:=eY) hi;rw[tD] at this;have:=h.n;omega
theorem RM {g:XG} (i:Nat):((g.threads.take i).map fun r=>Int.ofNat r.length).length<=g.threads.length:=by rw[lM_,lT_];omega
theorem RN {ls:List (List cm)} {i:Nat} {row:List cm} {x:cm} (d:ls[i]? =some row) (hx:row[q]? =some x):((ls.take i).flatMap fun r=>r.flatMap cm.ints).length+((row.take q).flatMap cm.ints).length+5<=(ls.flatMap fun r=>r.flatMap cm.ints).length:=by
 have h1:=vS (f:=fun r:List cm=>r.flatMap cm.ints) d;have u:_<=(row.flatMap cm.ints).length:=vS (f:=cm.ints) hx;rw[show(cm.ints x).length=5 from Z] at u;omega
theorem Ml {i:Nat} {row:List bS} (d:ls[i]? =some row):((ls.take i).flatMap eY).length+1+row.length*2<=(ls.flatMap eY).length:=by
 have h1:=vS (f:=eY) d;rw[tD] at h1;omega
theorem Mm {i:Nat} {row:List bS} {x:bS} (d:ls[i]? =some row) (hx:row[q]? =some x):((ls.take i).flatMap eY).length+1+((row.take q).flatMap bS.ints).length+2<=(ls.flatMap eY).length:=by
 have h1:=vS (f:=eY) d;have u:_<=(row.flatMap bS.ints).length:=vS (f:=bS.ints) hx;rw[show(bS.ints x).length=2 from Z] at u;rw[show(eY row).length=(row.flatMap bS.ints).length+1 from Z] at h1;omega
theorem mO {l:List α} {i:Nat} (h:l.length<=i):l.take i=l:=tL_ h
theorem Br (hG:Plain G) (hF:mQ g) {a b c d:V} (hg:dS K g a b c d) (ar:H O K L):
  EC G 104 [.agg [a,b,c,d]] O fun v O'=>∃M,cy 1 2 ek (nk g) v M/\H O' K (M++L):=by
 have hZ:=hF.n;refine V9 hG Tryz.func104 Z<|Vw 2 Z<|kb ar (cH Z Z) (fun O b1 ar=>?_);obtain⟨K1,a0,a1,ar⟩:=ar.bF (M:=[_]);have A:K1 b1 (.row [a,b,c,d] 52 false):=a1 _ (.head _);clear a1;have hg1:=hg.mono a0;refine UQ ar 6 [1] Z Z<|J Z (W4 Z (ar.cg A) Z) Z<|J Z (W5 hg1.threads Z Z Z (e:=25) Z) Z<|fh ar Z (bN (e:=2) (m:=1) (z:=[D]) (cs:=[_]) U U U U<|aZ Z Z Z Z bE) (fun _=>Z) (fun O b2 ar=>?_);have hO0:cy 1 2 ek [Int.ofNat g.threads.length] (.slice b2 0 1 (.known 1)) [(b2,.row [nI g.threads.length] 2 false)]:=vh (xs:=[Int.ofNat g.threads.length]) (by simp);obtain⟨M0,hM0⟩:∃M0:Own,M0= [(b2,.row [nI g.threads.length] 2 false)]:=⟨_,Z⟩;rw[<-hM0] at hO0;replace ar:H O K1 (M0++L):=by rw[hM0];exact ar
 refine TD 10 Z<|bk ([3,4]++rg 16 16) (fun j t O=>∃(i:Nat) (u:V) (M1:Own),(j+i=g.threads.length/\cy 1 2 ek ([Int.ofNat g.threads.length]++((g.threads.take i).map fun r=>Int.ofNat r.length)) u M1)/\t.get 3=some (u)/\t.get 4=some (nI i)/\H O K1 (M1++L)) (g.threads.length) ⟨0,_,_,⟨Z,hO0⟩,Z,Z,ar⟩ ?_;clear ar;intro j3 t O ak W;obtain⟨i,u,M1,⟨h7,hO1⟩,B,dx,ar⟩:=W;obtain⟨oo,rfl⟩:=ak.q2 B dx Z;refine UO ar 5 [1] Z Z<|J Z (W4 Z (ar.cg A) Z) Z<|J Z (W5 hg1.threads Z Z Z (e:=25) Z) Z<|Vy 3 Z<|aG Z (fun aa=>?_) (fun aa=>?_)
 ·refine TC 4 Z<|We 2 Z<|J Z (W3 1 Z) Z<|J Z (W4 Z (ar.cg A) Z) Z<|vQ 1 Z ?_;obtain⟨d0,a2,f2⟩:=di aa;refine WV (e:=25) (m:=1) hg1.threads a2 Z Z Z Z (fun h8 f3 cp f4 cr=>?_);have hr27':=cr;obtain⟨h9,rfl,cv⟩:=hr27';refine J Z (W7 ar cp Z Z) Z<|J Z (W5 cv Z Z Z (e:=38) Z) Z<|fh ar Z (bN (e:=2) (m:=1) (z:=[D]) (cs:=[_]) U U U U<|aZ Z Z Z Z bE) (fun _=>Z) (fun O b2 ar=>?_);replace ar:=ar.pull (.there .here);replace ar:=ar.pull (.bV<|bu.here (X:=[_]));refine fw (R:=ek) (m:=1) (e:=2) hO1 ar (iG (xs:=[Int.ofNat d0.length]) (.inr ⟨Z,Z⟩) (by simp)) ek.leaf (by have:=RM (g:=g) i;simp only[lA_,zc_,List.length_nil];omega) Z Z Z Z Z Z Z (fun _=>Z) (fun O ih ii hO31 ar=>?_);refine Wg 2 Z (az (Wd 5 Z (aD ⟨j3-1,(by have:=aM aa;omega),oF,i+1,_,_,⟨by have:=aM aa;omega,by rw[map_take a2,<-lQ_];exact hO31⟩,Z,cI<|aX (by have:=aM aa;have:=hF.t;omega),ar⟩)))
 refine UH 3 Z<|aN<|UE 3 Z ?_;have d1:g.threads.length<=i:=bK aa;rw[mO d1] at hO1;obtain⟨p1,a5⟩:∃x:List Int,x= [Int.ofNat g.threads.length]++g.threads.map fun r=>Int.ofNat r.length:=⟨_,Z⟩
 rw[<-a5] at hO1;have f5:p1.length<=1+g.threads.length:=by rw[a5,lA_,lM_];exact nR_ _
 refine UI 4 Z<|bk ([3,5,6,7]++rg 32 38) (fun j t O=>∃(i2:Nat) (u:V) (M2:Own),(j+i2=g.threads.length/\cy 1 2 ek (p1++((g.threads.take i2).flatMap fun r=>r.flatMap cm.ints)) u M2)/\t.get 3=some (u)/\t.get 5=some (nI i2)/\H O K1 (M2++L)) (g.threads.length) ⟨0,_,_,⟨Z,by rw[List.take_zero,List.flatMap_nil,zk_];exact hO1⟩,Z,Z,ar⟩ ?_;clear ar;intro j7 t O ak W;obtain⟨i2,u,M2,⟨il,hO2⟩,B,d2,ar⟩:=W;obtain⟨oo,rfl⟩:=ak.q2 B d2 Z;refine UO ar 5 [1] Z Z<|J Z (W4 Z (ar.cg A) Z) Z<|J Z (W5 hg1.threads Z Z Z (e:=25) Z) Z<|Vy 3 Z<|aG Z (fun ab=>?_) (fun ab=>?_)
 ·refine SF 6 Z ?_;obtain⟨row,Q⟩:=dc (aM ab);have hr14:=hF.r row (gB_ Q);refine UI 4 Z<|bk ([3,6,7]++rg 39 31) (fun j t O=>∃(q:Nat) (u:V) (M3:Own),(j+q=row.length/\cy 1 2 ek (p1++((g.threads.take i2).flatMap fun r=>r.flatMap cm.ints)++((row.take q).flatMap cm.ints)) u M3)/\t.get 3=some (u)/\t.get 6=some (nI q)/\H O K1 (M3++L)) (row.length) ⟨0,_,_,⟨Z,by rw[List.take_zero,List.flatMap_nil,zk_];exact hO2⟩,Z,Z,ar⟩ ?_;clear ar;intro d3 t O ak W;obtain⟨q,u,M3,⟨f6,hO3⟩,B,d4,ar⟩:=W;obtain⟨oo,rfl⟩:=ak.q2 B d4 Z;refine UO ar 5 [1] Z Z<|J Z (W4 Z (ar.cg A) Z) Z<|vQ 1 Z<|WV (e:=25) (m:=1) hg1.threads Q Z Z Z Z (fun im f7 cw f8 cx=>?_);have hr43':=cx;obtain⟨io,rfl,c0⟩:=hr43';refine J Z (W7 ar cw Z Z) Z<|J Z (W5 c0 Z Z Z (e:=38) Z) Z<|Vy 3 Z<|aG Z (fun ac=>?_) (fun ac=>?_)
  ·refine SF 6 Z<|J Z (W3 1 Z) Z<|J Z (W4 Z (ar.cg A) Z) Z<|vQ 1 Z<|WV (e:=25) (m:=1) hg1.threads Q Z Z Z Z (fun ip f9 c1 gc c2=>?_);have hr52':=c2;obtain⟨ir,rfl,c3⟩:=hr52';refine J Z (W7 ar c1 Z Z) Z<|vQ 1 Z ?_;obtain⟨ap,aE,ge⟩:=di ac;refine WV (e:=38) (m:=5) c3 aE Z Z Z Z (fun it gl c4 gr c5=>?_);obtain rfl:=c5;refine J Z (W8 ar c4 Z Z) Z<|kb ar (W6 (cs:=[D,D,D,D,D])) (fun O b2 ar=>?_);refine ks ar (Xb Z Z Z ar.g0 Z) (fun O ar=>?_);refine Vz 4 Z<|Wk ar 10 [0,0,1,0,2,0,3,0,4,0] Z Z<|fh ar Z (bN (e:=2) (m:=1) (z:=[D]) (cs:=[_,_,_,_,_]) U U U U<|aZ Z Z Z Z<|aZ Z Z Z Z<|aZ Z Z Z Z<|aZ Z Z Z Z<|aZ Z Z Z Z bE) (fun _=>Z) (fun O b3 ar=>?_);replace ar:=ar.pull (.there (.there .here));replace ar:=ar.pull (.bV<|bu.here (X:=[_]));refine fw (R:=ek) (m:=1) (e:=2) hO3 ar (iG (xs:=[ap.kind,ap.loc,ap.order,ap.read,ap.write]) (.inr ⟨Z,Z⟩) (by simp)) ek.leaf (by have:=RN Q aE;simp only[lA_,zc_,List.length_nil];omega) Z Z Z Z Z Z Z (fun _=>Z) (fun O iv ix hO69 ar=>?_);replace ar:=ar.sub (eb (.cons _ (.refl _)));refine Wg 2 Z (az (Wd 5 Z (aD ⟨d3-1,(by have:=aM ac;omega),oF,q+1,_,_,⟨by have:=aM ac;omega,by rw[gg aE,<-lQ_];exact hO69⟩,Z,cI<|aX (by have:=aM ac;omega),ar⟩)))
  refine UH 3 Z (aN (az (Wd 5 Z (aD ⟨j7-1,(by have:=aM ab;omega),oF,i2+1,_,_,⟨by have:=aM ab;omega,by rw[gg Q,<-lQ_];rw[mO<|bK ac] at hO3;exact hO3⟩,Z,cI<|aX (by have:=aM ab;have:=hF.t;omega),ar⟩))))
 refine UH 3 Z<|aN<|Vw 2 Z ?_;have d5:g.threads.length<=i2:=bK ab;rw[mO d5] at hO2;obtain⟨p2,a9⟩:∃x:List Int,x=p1++g.threads.flatMap fun r=>r.flatMap cm.ints:=⟨_,Z⟩
 rw[<-a9] at hO2;have gs:p2.length<=1+g.threads.length+(g.threads.flatMap fun r=>r.flatMap cm.ints).length:=by rw[a9,lA_];omega
 refine Wk ar 2 [2] Z Z<|J Z (W4 Z (ar.cg A) Z) Z<|J Z (W5 hg1.from_ Z Z Z (e:=42) Z) Z<|fh ar Z (bN (e:=2) (m:=1) (z:=[D]) (cs:=[_]) U U U U<|aZ Z Z Z Z bE) (fun _=>Z) (fun O b2 ar=>?_);replace ar:=ar.pull (.there .here);replace ar:=ar.pull (.bV<|bu.here (X:=[_]));refine fw (R:=ek) (m:=1) (e:=2) hO2 ar (iG (xs:=[Int.ofNat g.from_.length]) (.inr ⟨Z,Z⟩) (by simp)) ek.leaf (by simp;omega) Z Z Z Z Z Z Z (fun _=>Z) (fun O iz iJ hO75 ar=>?_);refine TE 6 Z ?_;obtain⟨p3,ba⟩:∃x:List Int,x=p2++[Int.ofNat g.from_.length]:=⟨_,Z⟩;rw[<-ba] at hO75;have gt:p3.length<=2+g.threads.length+(g.threads.flatMap fun r=>r.flatMap cm.ints).length:=by rw[ba,lA_];show p2.length+1<=_;omega
 refine UI 4 Z<|bk ([3,8,9]++rg 76 47) (fun j t O=>∃(i3:Nat) (u:V) (M4:Own),(j+i3=g.from_.length/\cy 1 2 ek (p3++((g.from_.take i3).flatMap eY)) u M4)/\t.get 3=some (u)/\t.get 8=some (nI i3)/\H O K1 (M4++L)) (g.from_.length) ⟨0,_,_,⟨Z,by rw[List.take_zero,List.flatMap_nil,zk_];exact hO75⟩,Z,Z,ar⟩ ?_;clear ar;intro d6 t O ak W;obtain⟨i3,u,M4,⟨gv,hO4⟩,B,d7,ar⟩:=W;obtain⟨oo,rfl⟩:=ak.q2 B d7 Z;refine UO ar 5 [2] Z Z<|J Z (W4 Z (ar.cg A) Z) Z<|J Z (W5 hg1.from_ Z Z Z (e:=42) Z) Z<|Vy 3 Z<|aG Z (fun am=>?_) (fun am=>?_)
 ·refine SF 6 Z ?_;obtain⟨fr,S⟩:=dc (aM am);have hf14:=hF.fr fr (gB_ S);refine Wk ar 2 [2] Z Z<|J Z (W4 Z (ar.cg A) Z) Z<|vQ 1 Z<|WV (e:=42) (m:=1) hg1.from_ S Z Z Z Z (fun iZ gy c6 g2 c7=>?_);have hr87':=c7;obtain⟨i0,rfl,c8⟩:=hr87';refine J Z (W7 ar c6 Z Z) Z<|J Z (W5 c8 Z Z Z (e:=87) Z) Z<|fh ar Z (bN (e:=2) (m:=1) (z:=[D]) (cs:=[_]) U U U U<|aZ Z Z Z Z bE) (fun _=>Z) (fun O b3 ar=>?_);replace ar:=ar.pull (.there .here);replace ar:=ar.pull (.bV<|bu.here (X:=[_]));refine fw (R:=ek) (m:=1) (e:=2) hO4 ar (iG (xs:=[Int.ofNat fr.length]) (.inr ⟨Z,Z⟩) (by simp)) ek.leaf (by have:=Ml S;simp only[lA_,zc_,List.length_nil];omega) Z Z Z Z Z Z Z (fun _=>Z) (fun O i1 i5 hO91 ar=>?_);refine UI 9 Z<|bk ([3,9]++rg 92 31) (fun j t O=>∃(q3:Nat) (u:V) (M5:Own),(j+q3=fr.length/\cy 1 2 ek (p3++((g.from_.take i3).flatMap eY)++[Int.ofNat fr.length]++((fr.take q3).flatMap bS.ints)) u M5)/\t.get 3=some (u)/\t.get 9=some (nI q3)/\H O K1 (M5++L)) (fr.length) ⟨0,_,_,⟨Z,by rw[List.take_zero,List.flatMap_nil,zk_];exact hO91⟩,Z,Z,ar⟩ ?_;clear ar;intro d8 t O ak W;obtain⟨q3,u,M5,⟨g3,hO5⟩,B,d9,ar⟩:=W;obtain⟨oo,rfl⟩:=ak.q2 B d9 Z;refine UO ar 5 [2] Z Z<|J Z (W4 Z (ar.cg A) Z) Z<|vQ 1 Z<|WV (e:=42) (m:=1) hg1.from_ S Z Z Z Z (fun i6 g4 c9 g5 dd=>?_);have hr96':=dd;obtain⟨i7,rfl,df⟩:=hr96';refine J Z (W7 ar c9 Z Z) Z<|J Z (W5 df Z Z Z (e:=87) Z) Z<|Vy 3 Z<|aG Z (fun ao=>?_) (fun ao=>?_)
  ·refine TC 4 Z<|aL (l:=zp [0,1,2,3,4,5,6,7,8,9,10,11,12,13,14,15,16,17,18,19,20,21]) U U<|Wl ar 2 [2] Z Z<|ah Z Z (W4 Z (ar.cg A) Z) Z<|wQ 1 Z<|WW (e:=42) (m:=1) hg1.from_ S Z Z Z Z Z (fun g6 ea bb ee bc=>?_);have hr106':=bc;obtain⟨g7,rfl,bd⟩:=hr106';refine ah Z Z (W7 ar bb Z Z) Z<|wQ 1 Z ?_;obtain⟨a3,I,ef⟩:=di ao;refine WW (e:=87) (m:=2) bd I Z Z Z Z Z (fun g8 eg be el bf=>?_);obtain rfl:=bf;refine dN be Z Z Z Z (k:=0) U (lb Z) (fun _=>Z) (fun g9 bg=>?_);refine ah Z Z (W7 ar bg Z Z) Z<|ah Z Z (W3 2 Z) Z<|ah Z Z (W4 Z (ar.cg A) Z) Z<|wQ 1 Z<|WW (e:=42) (m:=1) hg1.from_ S Z Z Z Z Z (fun ha em bi en bl=>?_);have hr115':=bl;obtain⟨hc,rfl,bm⟩:=hr115';refine ah Z Z (W7 ar bi Z Z) Z<|wQ 1 Z<|WW (e:=87) (m:=2) bm I Z Z Z Z Z (fun ho er bo es bp=>?_);obtain rfl:=bp;refine dN bo Z Z Z Z (k:=1) U (lb Z) (fun _=>Z) (fun hr bq=>?_);refine ah Z Z (W7 ar bq Z Z) Z<|gx ar Z Z (bN (e:=2) (m:=1) (z:=[D]) (cs:=[_,_]) U U U U<|aZ Z Z Z Z<|aZ Z Z Z Z bE) (fun _=>Z) (fun O b4 ar=>?_);replace ar:=ar.pull (.there .here);replace ar:=ar.pull (.bV<|bu.here (X:=[_]));refine gP (R:=ek) (m:=1) (e:=2) hO5 ar (iG (xs:=[a3.bH,a3.index]) (.inr ⟨Z,Z⟩) (by simp)) ek.leaf (by have:=Mm S I;simp only[lA_,zc_,List.length_nil];omega) Z Z Z Z Z Z Z Z (fun _=>Z) (fun O hs ht hO122 ar=>?_);refine⟨aT,?_⟩;refine Wi 2 Z (az (Wd 5 Z (aD ⟨d8-1,(by have:=aM ao;omega),oF,q3+1,_,_,⟨by have:=aM ao;omega,by rw[gg I,<-lQ_];exact hO122⟩,Z,cI<|aX (by have:=aM ao;omega),ar⟩)))
  refine UH 3 Z (aN (az (Wd 5 Z (aD ⟨d6-1,(by have:=aM am;omega),oF,i3+1,_,_,⟨by have:=aM am;omega,by rw[gg S,<-lQ_];rw[mO<|bK ao] at hO5;rw[lQ_] at hO5;exact hO5⟩,Z,cI<|aX (by have:=aM am;have:=hF.f;have:=hF.o;omega),ar⟩))))
 refine UH 3 Z<|aN<|Vw 2 Z ?_;have dk:g.from_.length<=i3:=bK am;rw[mO dk] at hO4;obtain⟨p4,bs⟩:∃x:List Int,x=p3++g.from_.flatMap eY:=⟨_,Z⟩;rw[<-bs] at hO4;have hu:p4.length<=2+g.threads.length+(g.threads.flatMap fun r=>r.flatMap cm.ints).length+(g.from_.flatMap eY).length:=by rw[bs,lA_];omega
 refine Wk ar 2 [3] Z Z<|J Z (W4 Z (ar.cg A) Z) Z<|J Z (W5 hg1.order Z Z Z (e:=42) Z) Z<|fh ar Z (bN (e:=2) (m:=1) (z:=[D]) (cs:=[_]) U U U U<|aZ Z Z Z Z bE) (fun _=>Z) (fun O b3 ar=>?_);replace ar:=ar.pull (.there .here);replace ar:=ar.pull (.bV<|bu.here (X:=[_]));refine fw (R:=ek) (m:=1) (e:=2) hO4 ar (iG (xs:=[Int.ofNat g.order.length]) (.inr ⟨Z,Z⟩) (by simp)) ek.leaf (by simp;omega) Z Z Z Z Z Z Z (fun _=>Z) (fun O hw hA hO128 ar=>?_);refine TE 6 Z ?_;obtain⟨p5,bt⟩:∃x:List Int,x=p4++[Int.ofNat g.order.length]:=⟨_,Z⟩;rw[<-bt] at hO128;have hB:p5.length<=3+g.threads.length+(g.threads.flatMap fun r=>r.flatMap cm.ints).length+(g.from_.flatMap eY).length:=by rw[bt,lA_];show p4.length+1<=_;omega
 refine UI 4 Z<|bk ([3,10,11]++rg 129 47) (fun j t O=>∃(i4:Nat) (u:V) (M6:Own),(j+i4=g.order.length/\cy 1 2 ek (p5++((g.order.take i4).flatMap eY)) u M6)/\t.get 3=some (u)/\t.get 10=some (nI i4)/\H O K1 (M6++L)) (g.order.length) ⟨0,_,_,⟨Z,by rw[List.take_zero,List.flatMap_nil,zk_];exact hO128⟩,Z,Z,ar⟩ ?_;clear ar;intro et t O ak W;obtain⟨i4,u,M6,⟨hC,hO6⟩,B,dl,ar⟩:=W;obtain⟨oo,rfl⟩:=ak.q2 B dl Z;refine UO ar 5 [3] Z Z<|J Z (W4 Z (ar.cg A) Z) Z<|J Z (W5 hg1.order Z Z Z (e:=42) Z) Z<|Vy 3 Z<|aG Z (fun C=>?_) (fun C=>?_)
 ·refine SF 6 Z ?_;obtain⟨od,T⟩:=dc (aM C);have ho56:=hF.Vp od (gB_ T);refine Wk ar 2 [3] Z Z<|J Z (W4 Z (ar.cg A) Z) Z<|vQ 1 Z<|WV (e:=42) (m:=1) hg1.order T Z Z Z Z (fun hD ev bv ex bw=>?_);have hr140':=bw;obtain⟨hE,rfl,bD⟩:=hr140';refine J Z (W7 ar bv Z Z) Z<|J Z (W5 bD Z Z Z (e:=87) Z) Z<|fh ar Z (bN (e:=2) (m:=1) (z:=[D]) (cs:=[_]) U U U U<|aZ Z Z Z Z bE) (fun _=>Z) (fun O b4 ar=>?_);replace ar:=ar.pull (.there .here);replace ar:=ar.pull (.bV<|bu.here (X:=[_]));refine fw (R:=ek) (m:=1) (e:=2) hO6 ar (iG (xs:=[Int.ofNat od.length]) (.inr ⟨Z,Z⟩) (by simp)) ek.leaf (by have:=Ml T;simp only[lA_,zc_,List.length_nil];omega) Z Z Z Z Z Z Z (fun _=>Z) (fun O hH hK hO144 ar=>?_);refine UI 9 Z<|bk ([3,11]++rg 145 31) (fun j t O=>∃(q4:Nat) (u:V) (M7:Own),(j+q4=od.length/\cy 1 2 ek (p5++((g.order.take i4).flatMap eY)++[Int.ofNat od.length]++((od.take q4).flatMap bS.ints)) u M7)/\t.get 3=some (u)/\t.get 11=some (nI q4)/\H O K1 (M7++L)) (od.length) ⟨0,_,_,⟨Z,by rw[List.take_zero,List.flatMap_nil,zk_];exact hO144⟩,Z,Z,ar⟩ ?_;clear ar;intro ez t O ak W;obtain⟨q4,u,M7,⟨hL,hO7⟩,B,dm,ar⟩:=W;obtain⟨oo,rfl⟩:=ak.q2 B dm Z;refine UO ar 5 [3] Z Z<|J Z (W4 Z (ar.cg A) Z) Z<|vQ 1 Z<|WV (e:=42) (m:=1) hg1.order T Z Z Z Z (fun hM e0 b0 e3 b6=>?_);have hr149':=b6;obtain⟨hN,rfl,b7⟩:=hr149';refine J Z (W7 ar b0 Z Z) Z<|J Z (W5 b7 Z Z Z (e:=87) Z) Z<|Vy 3 Z<|aG Z (fun E=>?_) (fun E=>?_)
  ·refine TC 4 Z<|aL (l:=zp [0,1,2,3,4,5,6,7,8,9,10,11,12,13,14,15,16,17,18,19,20,21]) U U<|Wl ar 2 [3] Z Z<|ah Z Z (W4 Z (ar.cg A) Z) Z<|wQ 1 Z<|WW (e:=42) (m:=1) hg1.order T Z Z Z Z Z (fun hO e4 b8 e5 b9=>?_);have hr159':=b9;obtain⟨hP,rfl,ca⟩:=hr159';refine ah Z Z (W7 ar b8 Z Z) Z<|wQ 1 Z ?_;obtain⟨a4,N,fd⟩:=di E;refine WW (e:=87) (m:=2) ca N Z Z Z Z Z (fun hQ fi cb fk cc=>?_);obtain rfl:=cc;refine dN cb Z Z Z Z (k:=0) U (lb Z) (fun _=>Z) (fun hR cd=>?_);refine ah Z Z (W7 ar cd Z Z) Z<|ah Z Z (W3 3 Z) Z<|ah Z Z (W4 Z (ar.cg A) Z) Z<|wQ 1 Z<|WW (e:=42) (m:=1) hg1.order T Z Z Z Z Z (fun hS fs ce fv ch=>?_);have hr168':=ch;obtain⟨hU,rfl,ci⟩:=hr168';refine ah Z Z (W7 ar ce Z Z) Z<|wQ 1 Z<|WW (e:=87) (m:=2) ci N Z Z Z Z Z (fun hV f0 ck f1 cl=>?_);obtain rfl:=cl;refine dN ck Z Z Z Z (k:=1) U (lb Z) (fun _=>Z) (fun hW cn=>?_);refine ah Z Z (W7 ar cn Z Z) Z<|gx ar Z Z (bN (e:=2) (m:=1) (z:=[D]) (cs:=[_,_]) U U U U<|aZ Z Z Z Z<|aZ Z Z Z Z bE) (fun _=>Z) (fun O b5 ar=>?_);replace ar:=ar.pull (.there .here);replace ar:=ar.pull (.bV<|bu.here (X:=[_]));refine gP (R:=ek) (m:=1) (e:=2) hO7 ar (iG (xs:=[a4.bH,a4.index]) (.inr ⟨Z,Z⟩) (by simp)) ek.leaf (by have:=Mm T N;simp only[lA_,zc_,List.length_nil];omega) Z Z Z Z Z Z Z Z (fun _=>Z) (fun O hX hY hO175 ar=>?_);refine⟨aT,?_⟩;refine Wi 2 Z (az (Wd 5 Z (aD ⟨ez-1,(by have:=aM E;omega),oF,q4+1,_,_,⟨by have:=aM E;omega,by rw[gg N,<-lQ_];exact hO175⟩,Z,cI<|aX (by have:=aM E;omega),ar⟩)))
  refine UH 3 Z (aN (az (Wd 5 Z (aD ⟨et-1,(by have:=aM C;omega),oF,i4+1,_,_,⟨by have:=aM C;omega,by rw[gg T,<-lQ_];rw[mO<|bK E] at hO7;rw[lQ_] at hO7;exact hO7⟩,Z,cI<|aX (by have:=aM C;have:=hF.f;have:=hF.o;omega),ar⟩))))
 refine UH 3 Z<|aN<|Vw 2 Z ?_;have dr:g.order.length<=i4:=bK C;rw[mO dr] at hO6;obtain⟨p6,co⟩:∃x:List Int,x=p5++g.order.flatMap eY:=⟨_,Z⟩;rw[<-co] at hO6;have h2:p6.length<=3+g.threads.length+(g.threads.flatMap fun r=>r.flatMap cm.ints).length+(g.from_.flatMap eY).length+(g.order.flatMap eY).length:=by rw[co,lA_];omega
 refine Wk ar 2 [0] Z Z<|J Z (W4 Z (ar.cg A) Z) Z<|J Z (W5 hg1.init Z Z Z (e:=2) Z) Z<|fh ar Z (bN (e:=2) (m:=1) (z:=[D]) (cs:=[_]) U U U U<|aZ Z Z Z Z bE) (fun _=>Z) (fun O b4 ar=>?_);replace ar:=ar.pull (.there .here);replace ar:=ar.pull (.bV<|bu.here (X:=[_]));refine fw (R:=ek) (m:=1) (e:=2) hO6 ar (iG (xs:=[Int.ofNat g.init.length]) (.inr ⟨Z,Z⟩) (by simp)) ek.leaf (by simp;omega) Z Z Z Z Z Z Z (fun _=>Z) (fun O h3 h4 hO181 ar=>?_);refine UQ ar 7 [0] Z Z<|J Z (W4 Z (ar.cg A) Z) Z<|yN (R:=ek) (m:=1) (e:=2) hO181 ar hg1.init ek.leaf (by have:=hF.i;simp only[lA_,zc_,List.length_nil];omega) Z Z Z Z Z Z Z (fun _=>Z) (fun O h6 ds hO185 ar=>?_);refine VA 4 Z ?_;exact aA Z Z ⟨ds,by have e:=hO185;rw[co,bt,bs,ba,a9,a5] at e;unfold nk;simpa only[lQ_,zk_] using e,ar.weaken a0⟩
variable {B:List Int} {C N a1 a2 b1 b2 d1 d2 u:V}
theorem Co {A:List Int} {i:Nat} {x y:Int} (hx:A[i]? =some x) (hy:B[i]? =some y):Cm (A.drop i) (B.drop i)=bif F (fu x y) 0 then Cm (A.drop (i+1)) (B.drop (i+1)) else fu x y:=by
 rw[cQ hx,cQ hy];rfl
theorem Ep {A:List Int} {i:Nat} (h:A.length<=i∨B.length<=i):Cm (A.drop i) (B.drop i)=0:=by
 rcases h with h | h
 ·rw[List.drop_of_length_le h];rfl
 rw[List.drop_of_length_le h];cases A.drop i<;>rfl
theorem ON {x y:Int} (h:dH x y=true):fu x y= -1:=by unfold fu;rw[h];rfl
theorem OM {x y:Int} (h:dH y x=true):fu x y=1:=by
 have d:dH x y=false:=by rw[dq] at h⊢;simp at h⊢;omega
 unfold fu;rw[h,d];rfl
theorem Jj {x y:Int} (h1:dH x y=false) (d:dH y x=false):fu x y=0:=by unfold fu;rw[h1,d];rfl
theorem A9 (hG:Plain G) {g1 R:XG} {c1 c2:V} (h1:dS K g1 a1 b1 c1 d1) (S:dS K R a2 b2 c2 d2) (hR1:mQ g1) (hR2:mQ R) (ar:H O K L):
  Ca G K L 60 [.agg [a1,b1,c1,d1],.agg [a2,b2,c2,d2]] O <| .int .i64 (ik g1 R):=by
 refine V9 hG Tryz.func60 Z<|Vw 2 Z<|kb ar (cH Z Z) (fun O b1 ar=>?_);refine kb ar (cH Z Z) (fun O b2 ar=>?_);refine UJ 4 Z (aL (l:=[(0,[]),(2,[]),(1,[2]),(3,[]),(4,[]),(5,[])]) U U<|ah Z Z (Xd Z ar.g1 Z) Z<|ah Z Z (Xd Z ar.g0 Z) Z<|ed Z Z (W2 Z Z Z) (fun _=>Z) (Br hG hR1 h1 ar) ?_);rintro u9 O ⟨M9,hO9,ar⟩;refine⟨(bj (bx Z Z Z Z Z (Xd Z ar.bG.g0 Z)<|gT<|cP S.init.iK<|cP S.threads.iK<|cP S.from_.iK<|cP S.order.iK gf) aT),?_⟩;refine ed Z Z (W2 Z Z Z) (fun _=>Z) (Br hG hR2 S ar) ?_;rintro bf O ⟨ap,hO11,ar⟩;refine⟨aT,?_⟩;refine VB 4 Z<|UE 3 Z ?_;obtain⟨K1,A,d,ar⟩:=ar.bF (M:=ap);have hn11:=hO11.fg (K:=K1) d;clear d;obtain⟨K2,u,d,ar⟩:=ar.bF (M:=M9);have hn9:=hO9.fg (K:=K2) d;have hn11:=hn11.mono u fun _ _ h=>h;clear d
 refine UI 4 Z ?_;obtain⟨LL1,ar,hLL1⟩:=ar.named;refine bk ([4,7]++rg 12 30) (fun j t O=>∃(i:Nat),(j+i=(nk g1).length/\Cm (nk g1) (nk R)=Cm ((nk g1).drop i) ((nk R).drop i))/\t.get 7=some (nI i)/\H O K2 LL1) ((nk g1).length) ⟨0,⟨Z,Z⟩,Z,ar⟩ ?_;clear ar;intro j3 t O ak hI;obtain⟨i,⟨bg,z⟩,aE,ar⟩:=hI;subst hLL1;obtain⟨oo,rfl⟩:=ak.q1 aE Z;refine UE 5 Z<|J Z (W5 hn9 Z Z Z (e:=2) Z) Z<|vQ 1 Z<|ky Z (an Z) (fun E=>?_) (fun E=>?_)
 ·refine Wh 2 Z<|J Z (W5 hn11 Z Z Z (e:=2) Z) Z<|Vy 4 Z<|aG Z (fun I=>?_) (fun I=>?_)
  ·refine SE 5 Z<|al<|aL (l:=zp [0,1,2,3,4,5,6,7,8]) U U<|Wj 2 Z ?_;have a0:i<(nk g1).length:=aM E;have a3:i<(nk R).length:=aM I;obtain⟨bi,B⟩:=dc a0;obtain⟨bl,C⟩:=dc a3;refine WW (e:=2) (m:=1) hn9 B Z Z Z Z Z (fun bm a4 T a5 W=>?_);obtain rfl:=W;refine ah Z Z (W7 ar T Z Z) Z<|Wj 2 Z<|WW (e:=2) (m:=1) hn11 C Z Z Z Z Z (fun bo a9 X ba aa=>?_);obtain rfl:=aa;refine ah Z Z (W7 ar X Z Z) Z<|VB 3 Z<|aG Z (fun N=>?_) (fun N=>?_)
   ·refine Wf 6 Z<|aH<|aP<|aH<|bX<|aP<|aH (?_);exact aA Z Z ⟨by rw[<-Cn,z,Co B C,ON N];rfl,(ar.pop.pop).weaken<|KP.le_trans A u⟩
   refine UF 3 Z<|aL (l:=zp [0,1,2,3,4,5,6,7,8]) U U<|Wj 2 Z ?_;have hx35:=B;have hx39:=C;refine WW (e:=2) (m:=1) hn9 hx35 Z Z Z Z Z (fun bp bb ab bc ac=>?_);obtain rfl:=ac;refine ah Z Z (W7 ar ab Z Z) Z<|Wj 2 Z<|WW (e:=2) (m:=1) hn11 hx39 Z Z Z Z Z (fun bq bd am be ao=>?_);obtain rfl:=ao;refine ah Z Z (W7 ar am Z Z) Z<|VB 3 Z<|aG Z (fun Q=>?_) (fun Q=>?_)
   ·refine Wf 6 Z<|aP<|aH<|bX<|aP<|aH (?_);exact aA Z Z ⟨by rw[<-Cn,z,Co hx35 hx39,OM Q];rfl,(ar.pop.pop).weaken<|KP.le_trans A u⟩
   refine aI<|az<|Wd 5 Z<|aD ⟨j3-1,oM,oF,i+1,⟨by omega,by rw[z,Co B C,Jj N Q];rfl⟩,cI<|aX (by have:=hn9.cS;omega),ar⟩
  refine UH 3 Z<|aN<|Wf 6 Z ?_;exact aA Z Z ⟨by rw[<-Cn,z,Ep (.inr<|bK I)],(ar.pop.pop).weaken<|KP.le_trans A u⟩
 refine UN 10 Z<|aU<|aN<|Wf 6 Z ?_;exact aA Z Z ⟨by rw[<-Cn,z,Ep (.inl<|bK E)],(ar.pop.pop).weaken<|KP.le_trans A u⟩
theorem PK (A:Plain G) {g1 d:XG} {B E I z M:V} (h1:dS K g1 B u C E) (Q:dS K d I z M N) (hR1:mQ g1) (hR2:mQ d) (ar:H O K L):
  Ca G K L 61 [.agg [B,u,C,E],.agg [I,z,M,N]] O <| .bool (F (ik g1 d) 0):=by
 refine V9 A Tryz.func61 Z<|Vw 2 Z<|kb ar (cH Z Z) (fun O u ar=>?_);refine kb ar (cH Z Z) (fun O z ar=>?_);refine UK 5 Z<|J Z (Xd Z ar.g1 Z) Z<|J Z (Xd Z ar.g0 Z) Z<|kx (W2 Z Z Z) (A9 A h1 Q hR1 hR2 ar) (fun O ar=>?_);refine VA 5 Z ?_;exact aA Z Z ⟨Z,ar.pop.pop⟩
def zL (u:V) (vs:List V):Prop:=vs= [u]/\cG u=some [u]/\eB u=true
theorem zL.leaf:∀x vs,zL x vs->cM vs=true:=fun u _ h=>by
 obtain⟨rfl,_,d⟩:=h;exact aj d aC
def On (g:XG):Prop:=g.init.length<=1048576/\g.threads.length<=1048576/\(∀l∈g.threads,l.length<=1048576)/\g.from_.length<=1048576/\(∀l∈g.from_,l.length<=1048576)/\g.order.length<=1048576/\(∀l∈g.order,l.length<=1048576)
theorem HT (h:mQ g):On g:=⟨by have:=h.i;omega,by have:=h.t;omega,fun l hl=>by have:=h.r l hl;omega,by have:=h.f;omega,fun l hl=>by have:=h.fr l hl;omega,by have:=h.o;omega,fun l hl=>by have:=h.Vp l hl;omega⟩
structure Q8 (g:XG) (u0:V) (M0:Own) (u1:V) (us1:List V) (O1 I1:Own) (u2:V) (us2:List V) (O2 I2:Own) (u3:V) (us3:List V) (O3 I3:Own):Prop where
 init:cy 1 2 ek g.init u0 M0
 threads:eX 5 38 gG g.threads us1 I1
 from_:eX 2 87 dK g.from_ us2 I2
 order:eX 2 87 dK g.order us3 I3
 o1:cy 1 25 zL us1 u1 O1
 o2:cy 1 42 zL us2 u2 O2
 o3:cy 1 42 zL us3 u3 O3
abbrev Vq (M0 O1 I1 O2 I2 O3 I3 L:Own):Own:=O3++(I3++(O2++(I2++(O1++(I1++(M0++L))))))
theorem BU (hG:Plain G) {a b c d:V} (T:dS K g a b c d) (bd:On g) (ar:H O K L):
  EC G 62 [.agg [a,b,c,d]] O fun v O'=>∃u0 M0 u1 u O1 C u2 A O2 W u3 B O3 I3,v= .agg [u0,u1,u2,u3]/\Q8 g u0 M0 u1 u O1 C u2 A O2 W u3 B O3 I3/\H O' K (Vq M0 O1 C O2 W O3 I3 L):=by
 obtain⟨ce,ch,be,ci,bf,ck,bg⟩:=bd;refine V9 hG Tryz.func62 Z<|Vw 2 Z<|kb ar (cH Z Z) (fun O b1 ar=>?_);refine kb ar (W6 (cs:=[.av,.av,.av,.av])) (fun O b2 ar=>?_);refine UK 4 Z<|fh ar Z (bN (e:=2) (m:=1) (z:=[D]) (cs:=[]) U U U U bE) (fun _=>Z) (fun O b3 ar=>?_);replace ar:H O _ ([(b3,.row [] 2 false)]++_):=ar;refine J Z (W3 0 Z) Z<|J Z (W4 Z ar.bG.pop.g0 Z) Z<|yN (R:=ek) (m:=1) (e:=2) cy.empty ar T.init ek.leaf (by show 0+_<=_;omega) Z Z Z Z Z Z Z (fun _=>Z) (fun O aa ab hO10 ar=>?_);refine J Z (cE (places:=[(0,1),(1,1),(2,1),(3,1)]) (zero:=[.av,.av,.av,.av]) (cs:=[_,_,_,_]) U U U (aZ Z Z hO10.leaf.1 Z bE) U) Z<|kb ar (W6 (cs:=[.av,.av,.av,.av])) (fun O b4 ar=>?_);refine ks ar (Sx Z Z Z ar.g0 (m:=4) Z (aj hO10.leaf.2 Z) (cells':=[_,_,_,_]) Z) (fun O ar=>?_);refine TD 9 Z (bk ([4]++rg 12 19) (fun j t O=>∃(i:Nat) (u1:V) (u:List V) (O1 C:Own),j+i=g.threads.length/\eX 5 38 gG (g.threads.take i) u C/\cy 1 25 zL u u1 O1/\t.get 4=some (nI i)/\H O K (O1++(C++((b4,.row [aa,u1,.av,.av] 52 false)::(ab++((b2,.row [.av,.av,.av,.av] 52 false)::(b1,.row [a,b,c,d] 52 false)::L)))))) (g.threads.length) ⟨0,.av,[],[],[],Z,.nil,cy.nil,Z,ar⟩ ?_);clear ar;intro j3 t O ak hI;obtain⟨i,u1,u,O1,C,cl,hI1,hO1,bi,ar⟩:=hI;obtain⟨oo,rfl⟩:=ak.q1 bi Z;refine UO ar 5 [1] Z Z<|J Z (W4 Z ar.bG.bG.pop.bG.pop.g0 Z) Z<|J Z (W5 T.threads Z Z Z (e:=25) Z) Z<|Vy 3 Z<|aG Z (fun E=>?_) (fun E=>?_)
 ·refine TC 4 Z (aL (l:=[(0,[]),(1,[]),(2,[]),(3,[]),(4,[]),(5,[]),(6,[]),(7,[]),(8,[1]),(9,[]),(10,[]),(11,[]),(12,[])]) U U<|ah Z Z (W3 1 Z) Z<|ah Z Z (W4 Z ar.bG.bG.g0 Z) Z<|gx ar Z Z (bN (e:=38) (m:=5) (z:=[D,D,D,D,D]) (cs:=[]) U U U U bE) (fun _=>Z) (fun O b5 ar=>?_));replace ar:H O _ ([(b5,.row [] 38 false)]++_):=ar;refine ah Z Z (W3 1 Z) Z<|ah Z Z (W4 Z ar.bG.bG.bG.pop.bG.pop.g0 Z) Z<|wQ 1 Z ?_;obtain⟨cn,I,bD⟩:=di E;refine WW (e:=25) (m:=1) T.threads I Z Z Z Z Z (fun co bH ap b0 aE=>?_);have hr25':=aE;obtain⟨cp,rfl,a0⟩:=hr25';refine ah Z Z (W7 ar ap Z Z) Z (qx (R:=gG) (m:=5) (e:=38) cy.empty ar a0 gG.leaf (by have:=be _ (gB_ I);show 0+_<=_;omega) Z Z Z Z Z Z Z Z (fun _=>Z) (fun O ac a1 hO27 ar=>?_));refine⟨(bj (bx Z Z Z Z Z (W4 Z ar.bG.bG.bG.g0 Z) (hO1.uT (K:=fun _ _=>False)).dQ) aT),?_⟩;refine gx ar Z Z (bN (e:=25) (m:=1) (z:=[.av]) (cs:=[ac]) U U U U<|aZ Z Z hO27.leaf.1 Z bE) (fun _=>Z) (fun O b6 ar=>?_);replace ar:=ar.pull (.there (.bV .here));replace ar:=ar.pull (.bV<|bu.here (X:=[_]));refine gP (R:=zL) (m:=1) (e:=25) hO1 ar (dn (m:=1) Z (show zL ac [ac] from⟨Z,hO27.leaf⟩)) zL.leaf (by have h1:=hI1.length;rw[lT_] at h1;show _+1<=_;omega) Z Z Z Z Z Z Z Z (fun _=>Z) (fun O bl bm hO29 ar=>?_);refine⟨aT,?_⟩;refine ah Z Z (W3 1 Z) Z<|eF ar (.bV (.bV (.bV .here))) Z Z (aO Z Z hO29.leaf.1 ar.bG.bG.bG.g0 (m:=1) U Z (lb Z) (aj hO29.leaf.2 aC) (cells':=[_,_,_,_]) Z) Z (fun O ar=>?_);refine⟨aT,?_⟩;refine aV<|az<|ad<|ai Z ?_;rw[<-lQ_ a1 C] at ar;refine Wg 4 Z<|aD ⟨j3-1,(by have:=aM E;omega),oF,i+1,bl,u++[ac],bm,a1++C,(by have:=aM E;omega),(by rw[zb_,I];exact .snoc hI1 hO27),hO29,cI<|aX (by have:=T.threads.cS;omega),ar⟩
 refine UH 3 Z (aN (UD 7 Z (bk ([5]++rg 31 19) (fun j t O=>∃(i:Nat) (u2:V) (A:List V) (O2 W:Own),j+i=g.from_.length/\eX 2 87 dK (g.from_.take i) A W/\cy 1 42 zL A u2 O2/\t.get 5=some (nI i)/\H O K (O2++(W++(O1++(C++((b4,.row [aa,u1,u2,.av] 52 false)::(ab++((b2,.row [.av,.av,.av,.av] 52 false)::(b1,.row [a,b,c,d] 52 false)::L)))))))) (g.from_.length) ⟨0,.av,[],[],[],Z,.nil,cy.nil,Z,ar⟩ ?_)));clear ar;intro j7 t O ak hI;obtain⟨i,u2,A,O2,W,cr,hI2,hO2,bo,ar⟩:=hI;obtain⟨oo,rfl⟩:=ak.q1 bo Z;refine UO ar 5 [2] Z Z<|J Z (W4 Z ar.bG.bG.bG.bG.pop.bG.pop.g0 Z) Z<|J Z (W5 T.from_ Z Z Z (e:=42) Z) Z<|Vy 3 Z<|aG Z (fun M=>?_) (fun M=>?_)
 ·refine TC 4 Z (aL (l:=[(0,[]),(1,[]),(2,[]),(3,[]),(4,[]),(5,[]),(6,[]),(7,[]),(8,[1]),(9,[]),(10,[]),(11,[]),(12,[])]) U U<|ah Z Z (W3 2 Z) Z<|ah Z Z (W4 Z ar.bG.bG.bG.bG.g0 Z) Z<|gx ar Z Z (bN (e:=87) (m:=2) (z:=[D,D]) (cs:=[]) U U U U bE) (fun _=>Z) (fun O b5 ar=>?_));replace ar:H O _ ([(b5,.row [] 87 false)]++_):=ar;refine ah Z Z (W3 2 Z) Z<|ah Z Z (W4 Z ar.bG.bG.bG.bG.bG.pop.bG.pop.g0 Z) Z<|wQ 1 Z ?_;obtain⟨cv,N,b7⟩:=di M;refine WW (e:=42) (m:=1) T.from_ N Z Z Z Z Z (fun cw b8 a2 b9 a3=>?_);have hr44':=a3;obtain⟨cx,rfl,a4⟩:=hr44';refine ah Z Z (W7 ar a2 Z Z) Z (qx (R:=dK) (m:=2) (e:=87) cy.empty ar a4 dK.leaf (by have:=bf _ (gB_ N);show 0+_<=_;omega) Z Z Z Z Z Z Z Z (fun _=>Z) (fun O am a5 hO46 ar=>?_));refine⟨(bj (bx Z Z Z Z Z (W4 Z ar.bG.bG.bG.bG.bG.g0 Z) (hO2.uT (K:=fun _ _=>False)).dQ) aT),?_⟩;refine gx ar Z Z (bN (e:=42) (m:=1) (z:=[.av]) (cs:=[am]) U U U U<|aZ Z Z hO46.leaf.1 Z bE) (fun _=>Z) (fun O b6 ar=>?_);replace ar:=ar.pull (.there (.bV .here));replace ar:=ar.pull (.bV<|bu.here (X:=[_]));refine gP (R:=zL) (m:=1) (e:=42) hO2 ar (dn (m:=1) Z (show zL am [am] from⟨Z,hO46.leaf⟩)) zL.leaf (by have h1:=hI2.length;rw[lT_] at h1;show _+1<=_;omega) Z Z Z Z Z Z Z Z (fun _=>Z) (fun O bp bq hO48 ar=>?_);refine⟨aT,?_⟩;refine ah Z Z (W3 2 Z) Z<|eF ar (.bV (.bV (.bV (.bV (.bV .here))))) Z Z (aO Z Z hO48.leaf.1 ar.bG.bG.bG.bG.bG.g0 (m:=1) U Z (lb Z) (aj hO48.leaf.2 aC) (cells':=[_,_,_,_]) Z) Z (fun O ar=>?_);refine⟨aT,?_⟩;refine aV<|az<|ad<|ai Z ?_;rw[<-lQ_ a5 W] at ar;refine Wg 4 Z<|aD ⟨j7-1,(by have:=aM M;omega),oF,i+1,bp,A++[am],bq,a5++W,(by have:=aM M;omega),(by rw[zb_,N];exact .snoc hI2 hO46),hO48,cI<|aX (by have:=T.from_.cS;omega),ar⟩
 refine UH 3 Z (aN (UD 7 Z (bk ([6]++rg 50 19) (fun j t O=>∃(i:Nat) (u3:V) (B:List V) (O3 I3:Own),j+i=g.order.length/\eX 2 87 dK (g.order.take i) B I3/\cy 1 42 zL B u3 O3/\t.get 6=some (nI i)/\H O K (O3++(I3++(O2++(W++(O1++(C++((b4,.row [aa,u1,u2,u3] 52 false)::(ab++((b2,.row [.av,.av,.av,.av] 52 false)::(b1,.row [a,b,c,d] 52 false)::L)))))))))) (g.order.length) ⟨0,.av,[],[],[],Z,.nil,cy.nil,Z,ar⟩ ?_)));clear ar;intro bs t O ak hI;obtain⟨i,u3,B,O3,I3,ca,hI3,hO3,bt,ar⟩:=hI;obtain⟨oo,rfl⟩:=ak.q1 bt Z;refine UO ar 5 [3] Z Z<|J Z (W4 Z ar.bG.bG.bG.bG.bG.bG.pop.bG.pop.g0 Z) Z<|J Z (W5 T.order Z Z Z (e:=42) Z) Z<|Vy 3 Z<|aG Z (fun Q=>?_) (fun Q=>?_)
 ·refine TC 4 Z (aL (l:=[(0,[]),(1,[]),(2,[]),(3,[]),(4,[]),(5,[]),(6,[]),(7,[]),(8,[1]),(9,[]),(10,[]),(11,[]),(12,[])]) U U<|ah Z Z (W3 3 Z) Z<|ah Z Z (W4 Z ar.bG.bG.bG.bG.bG.bG.g0 Z) Z<|gx ar Z Z (bN (e:=87) (m:=2) (z:=[D,D]) (cs:=[]) U U U U bE) (fun _=>Z) (fun O b5 ar=>?_));replace ar:H O _ ([(b5,.row [] 87 false)]++_):=ar;refine ah Z Z (W3 3 Z) Z<|ah Z Z (W4 Z ar.bG.bG.bG.bG.bG.bG.bG.pop.bG.pop.g0 Z) Z<|wQ 1 Z ?_;obtain⟨c0,S,cb⟩:=di Q;refine WW (e:=42) (m:=1) T.order S Z Z Z Z Z (fun c1 cc a9 cd ba=>?_);have hr63':=ba;obtain⟨c2,rfl,bb⟩:=hr63';refine ah Z Z (W7 ar a9 Z Z) Z (qx (R:=dK) (m:=2) (e:=87) cy.empty ar bb dK.leaf (by have:=bg _ (gB_ S);show 0+_<=_;omega) Z Z Z Z Z Z Z Z (fun _=>Z) (fun O ao bc hO65 ar=>?_));refine⟨(bj (bx Z Z Z Z Z (W4 Z ar.bG.bG.bG.bG.bG.bG.bG.g0 Z) (hO3.uT (K:=fun _ _=>False)).dQ) aT),?_⟩;refine gx ar Z Z (bN (e:=42) (m:=1) (z:=[.av]) (cs:=[ao]) U U U U<|aZ Z Z hO65.leaf.1 Z bE) (fun _=>Z) (fun O b6 ar=>?_);replace ar:=ar.pull (.there (.bV .here));replace ar:=ar.pull (.bV<|bu.here (X:=[_]));refine gP (R:=zL) (m:=1) (e:=42) hO3 ar (dn (m:=1) Z (show zL ao [ao] from⟨Z,hO65.leaf⟩)) zL.leaf (by have h1:=hI3.length;rw[lT_] at h1;show _+1<=_;omega) Z Z Z Z Z Z Z Z (fun _=>Z) (fun O bv bw hO67 ar=>?_);refine⟨aT,?_⟩;refine ah Z Z (W3 3 Z) Z<|eF ar (.bV (.bV (.bV (.bV (.bV (.bV (.bV .here))))))) Z Z (aO Z Z hO67.leaf.1 ar.bG.bG.bG.bG.bG.bG.bG.g0 (m:=1) U Z (lb Z) (aj hO67.leaf.2 aC) (cells':=[_,_,_,_]) Z) Z (fun O ar=>?_);refine⟨aT,?_⟩;refine aV<|az<|ad<|ai Z ?_;rw[<-lQ_ bc I3] at ar;refine Wg 4 Z<|aD ⟨bs-1,(by have:=aM Q;omega),oF,i+1,bv,B++[ao],bw,bc++I3,(by have:=aM Q;omega),(by rw[zb_,S];exact .snoc hI3 hO65),hO67,cI<|aX (by have:=T.order.cS;omega),ar⟩
 refine UH 3 Z<|aN<|Vw 2 Z<|J Z (Xd Z ar.bG.bG.bG.bG.bG.bG.g0 Z) Z<|iM ar (.bV (.bV (.bV (.bV (.bV (.bV (.there (.bV .here)))))))) Z (Sx Z Z Z ar.bG.bG.bG.bG.bG.bG.pop.bG.g0 (m:=4) Z (aj hO10.leaf.2<|aj hO1.leaf.2<|aj hO2.leaf.2<|aj hO3.leaf.2 aC) (cells':=[_,_,_,_]) Z) Z (fun O ar=>?_);refine VA 3 Z ?_;rw[tL_<|bK E] at hI1;rw[tL_<|bK M] at hI2;rw[tL_<|bK Q] at hI3;exact dh Z Z ar.bG.bG.bG.bG.bG.bG.pop.bG.g0 (m:=4) U Z ⟨aa,ab,u1,u,O1,C,u2,A,O2,W,u3,B,O3,I3,Z,⟨hO10,hI1,hI2,hI3,hO1,hO2,hO3⟩,ar.sub<|eb<|eb<|eb<|eb<|eb<|eb (.cons _<|eb (.cons _ (.cons _ (.refl _))))⟩
def Of (x:V) (vs:List V):Prop:=vs= [x]/\eB x=true/\cG x=some [x]
theorem Of.leaf (x:V) (vs:List V) (h:Of x vs):cM vs=true:=by
 rw[h.1];exact aj h.2.1 aC
section
variable {α:Type} {m E E2:Nat} {R:α->List V->Prop} {ls:List (List α)} {us:List V} {u:V} {N M:Own} {K:KP}
theorem gO (d:cy 1 E2 Of us u N) (h:eX m E R ls us M) (z:∀e∈N,K e.1 e.2) (A:∀e∈M,K e.1 e.2):bO K 1 (RL K m R) ls u:=by
 have hl:=h.length;rcases d with ⟨rfl,rfl,_⟩ | ⟨b,c,cells,e,rfl,rfl,h3,B,h5,h6⟩
 ·exact .inl ⟨List.length_eq_zero_iff.1 hl.symm,Z⟩
 refine .inr ⟨b,0,c,cells,e,false,by rw[hl],?_,z _<|mS_ ..,by omega,by omega,fun i x hx=>?_⟩
 ·rcases h5 with h5 | h5
  ·exact .inr ⟨_,h5,by omega⟩
  exact .inl h5.1
 obtain⟨u,h1,C⟩:=h.each A i x hx;refine⟨u,?_,C⟩;have:=(B i u h1).1;simpa using this
end
variable {vi vt:V}
theorem z8:∀x vs,RL K 2 dK x vs->cM vs=true:=fun _ _ ⟨v,h,hk⟩=>by rw[h];exact aj hk.leaf.2 aC
theorem Pd {threads:List (List cm)}:∀{n:Nat},eX 2 87 dK (Fw n<|qc threads 0 0) (List.replicate n .av) []:=fun {n}=>by
 rw[Ju,Qu];induction n with
 | zero=>exact .nil
 | succ n ih=>rw[List.replicate_succ',List.replicate_succ'];exact eX.snoc (M1:=[]) ih cy.nil
theorem SR (hG:Plain G) {init:List Int} {threads:List (List cm)} (hi:bO K 1 ek init vi) (ht:bO K 1 (RL K 5 gG) threads vt) (hE:fX init threads=0) (ar:H O K L):
  EC G 14 [vi,vt] O fun v O'=>∃K2 p2 p3 p4,KP.le K K2/\v= .agg [vi,vt,p2,p3,p4]/\bO K2 2 dK ((iB threads).map (·.1)) p2/\bO K2 1 (RL K2 2 dK) (dR init threads) p3/\bO K2 1 (RL K2 2 dK) (eO init threads) p4/\H O' K2 L:=by
 obtain⟨h6,h4,T,ac⟩:=oO hE;refine V9 hG Tryz.func14 Z<|Vw 2 Z<|kb ar (W6 (cs:=[.av,.av,.av,.av,.av])) (fun O b1 ar=>?_);refine UK 7 Z<|J Z (W5 hi Z Z Z (e:=2) Z) Z<|fh ar Z (ie (e:=42) (w:=24) (z:=[.av]) U U U U Z Z oM oM) (fun _=>Z) (fun O b2 ar=>?_);rw[fL] at ar;refine J Z (cE (places:=[(0,1),(1,1),(2,1),(3,1),(4,1)]) (zero:=[.av,.av,.av,.av,.av]) (cs:=[_,_,_,_,_]) U U U (aZ Z Z hi.leaf.1 Z<|aZ Z Z ht.leaf.1 Z<|aZ Z Z Z Z bE) U) Z<|kb ar (W6 (cs:=[.av,.av,.av,.av,.av])) (fun O b3 ar=>?_);refine ks ar (Sx Z Z Z ar.g0 (m:=5) Z (aj hi.leaf.2<|aj ht.leaf.2 Z) (cells':=[_,_,_,_,_]) Z) (fun O ar=>?_);refine TE 6 Z (J Z (W5 ht Z Z Z (e:=25) Z) Z (UI 4 Z (bk (rg 6 4++rg 23 33) (fun j t O=>∃(i:Nat) (us:List V) (I:Own),j+i=threads.length/\eX 2 87 dK (Fw init.length<|qc threads i 0) us I/\t.get 23=some (nI i)/\H O K ((b3,.row [vi,vt,.av,.av,.slice b2 0 init.length (.known init.length)] 45 false)::(b2,.row us 42 false)::(I++(b1,.row [.av,.av,.av,.av,.av] 45 false)::L))) (threads.length) ⟨0,List.replicate init.length .av,[],Z,Pd,Z,ar⟩ ?_)));clear ar;intro j3 t O ak hI;obtain⟨i,us,I,c5,hI,bc,ar⟩:=hI;obtain⟨oo,rfl⟩:=ak.q1 bc Z;refine Vv 6 Z<|aG Z (fun W=>?_) (fun W=>?_)
 ·refine SF 7 Z ?_;obtain⟨bb,C,ck⟩:=di W;refine WV (e:=25) (m:=1) ht C Z Z Z Z (fun c6 cl bd cn be=>?_);have hr26':=be;obtain⟨c7,rfl,a5⟩:=hr26';refine J Z (W7 ar bd Z Z) Z (UK 7 Z (J Z (W5 a5 Z Z Z (e:=38) Z) Z (UI 4 Z (bk ([8,9]++rg 30 25) (fun j t O=>∃(k:Nat) (aE:List V) (I2:Own),j+k=bb.length/\eX 2 87 dK (Fw init.length<|qc threads i k) aE I2/\t.get 30=some (nI k)/\H O K ((b3,.row [vi,vt,.av,.av,.slice b2 0 init.length (.known init.length)] 45 false)::(b2,.row aE 42 false)::(I2++(b1,.row [.av,.av,.av,.av,.av] 45 false)::L))) (bb.length) ⟨0,us,I,Z,hI,Z,ar⟩ ?_))));clear ar;intro j6 t O ak hI;obtain⟨k,aE,I2,c8,hI2,bf,ar⟩:=hI;obtain⟨oo,rfl⟩:=ak.q1 bf Z;refine Vv 6 Z<|aG Z (fun S=>?_) (fun S=>?_)
  ·refine SF 7 Z ?_;obtain⟨b9,am,co⟩:=di S;refine WV (e:=38) (m:=5) a5 am Z Z Z Z (fun c9 cp bg cr bi=>?_);obtain rfl:=bi;refine J Z (W8 ar bg Z Z) Z<|kb ar (W6 (cs:=[D,D,D,D,D])) (fun O b4 ar=>?_);refine vQ 1 Z<|ks ar (Xb Z Z Z ar.g0 Z) (fun O ar=>?_);refine UK 4 Z<|J Z (Xe Z ar.g0 Z) Z<|kx (W2 Z Z Z) (ma hG b9 ar) (fun O ar=>?_);refine Vy 2 Z<|aG Z (fun a1=>?_) (fun a1=>?_)
   ·refine aL (l:=[(0,[]),(1,[]),(2,[]),(3,[]),(4,[]),(5,[]),(6,[]),(7,[]),(8,[]),(9,[]),(10,[]),(11,[]),(12,[]),(13,[]),(14,[]),(15,[1,3]),(16,[]),(17,[])]) U U ?_;have hek:=ac _ (gB_ C) _ (gB_ am);obtain⟨ln,aa,E⟩:=Cr hek (FA a1);obtain⟨l0,a2⟩:∃l0,(Fw init.length<|qc threads i k)[ln]? =some l0:=⟨_,vz E⟩;have dd:l0.length<=70:=by rw[vz E] at a2;rw[<-zs_ a2,lM_];exact Nat.le_trans (List.length_filter_le ..)<|xU h4 T
    obtain⟨ut,Mt,A,B,bl,ca,cb,bm⟩:=hI2.at a2;subst cb;have hul:=(gA.1 bl).1;replace ar:=ar.pull (X:=Mt) (.there (.there (.there .AN)));refine ah Z Z (W3 4 Z) Z (ah Z Z (W4 Z ar.bG.pop.g0 Z) Z (ah Z Z (W3 1 Z) Z (ah Z Z (W4 Z ar.bG.g0 Z) Z (ah Z Z (W3 4 Z) Z (ah Z Z (W4 Z ar.bG.pop.g0 Z) Z (ah Z Z (W3 1 Z) Z (ah Z Z (W4 Z ar.bG.g0 Z) Z (ah Z Z (eH (e:=42) (m:=1) U U Z (by rw[aa];rfl) E) Z (ah Z Z (aw Z ar.bG.pop.pop.g0 U (by rw[fY,show 0+ln*1=ln from by omega];exact bl)) Z (wQ 1 Z (ah Z Z (ay (v:=nI (i+1)) Z Z<|cI<|aX (by have:=aM W;omega)) Z (wQ 1 Z (ah Z Z (W1 (places:=[(0,1),(1,1)]) (zero:=[D,D]) (cs:=[_,_]) Z) Z ?_)))))))))))));refine gx ar Z Z (bN (e:=87) (m:=2) (z:=[D,D]) (cs:=[_,_]) U U U U<|aZ Z Z Z Z bE) (fun _=>Z) (fun O b5 ar=>?_);replace ar:=ar.pull (.there<|bu.here (X:=Mt));replace ar:=ar.pull (.bV<|bu.here (X:=[_]));rw[za_] at ar;refine gP (R:=dK) (m:=2) (e:=87) ca ar (dn (m:=2) Z (show dK ⟨.ofNat (i+1),.ofNat k⟩ _ from Z)) dK.leaf (by simp only[zc_,List.length_nil];omega) Z Z Z Z Z Z Z Z (fun _=>Z) (fun O cc bo hO52 ar=>?_);refine⟨(bj (bx Z Z Z Z Z (W4 Z ar.bG.pop.g0 Z)<|HE _ _ _ _)<|bj (bx Z Z Z Z Z (W4 Z ar.bG.g0 Z)<|cW _ _) aT),?_⟩;refine ah Z Z (eH (e:=42) (m:=1) U U Z (by rw[aa];rfl) E) Z (eF ar (.bV (.there (.there .here))) Z Z (gn Z Z hO52.leaf.1 ar.bG.pop.pop.g0 (m:=1) U Z oM<|aj hO52.leaf.2 aC) Z (fun O ar=>?_));refine⟨aT,?_⟩;rw[mM oM] at ar;replace ar:=ar.push (X:=bo) (L:=_::_::_::((A++(bo++B))++_)) (.there (.there (.there .AN)));refine aV<|az<|Wd 4 Z ?_;have ar:=ar.pop;refine aD ⟨j6-1,(by have:=aM S;omega),oF,k+1,aE.set ln cc,_,(by have:=aM S;omega),(by rw[lS C am,Qv a1 aa a2];exact bm _ _ _ hO52),cI (aX (by have:=aM S;have:=T _ (gB_ C);omega)),ar⟩
   refine aI<|az<|Wd 4 Z ?_;have ar:=ar.pop;refine aD ⟨j6-1,(by have:=aM S;omega),oF,k+1,aE,I2,(by have:=aM S;omega),(by rw[lS C am,Sv a1];exact hI2),cI (aX (by have:=aM S;have:=T _ (gB_ C);omega)),ar⟩
  refine UH 3 Z<|aN<|az<|Wd 4 Z<|aD ⟨j3-1,(by have:=aM W;omega),oF,i+1,aE,I2,(by have:=aM W;omega),(by rw[<-uM C,show bb.length=k by have:=bK S;omega];exact hI2),cI<|aX (by have:=aM W;omega),ar⟩
 refine UH 3 Z<|aN<|UE 3 Z ?_;rw[xT<|bK W] at hI;replace ar:=ar.pull (.there (.there (.bV<|bu.here (X:=[_]))));rw[za_] at ar;replace ar:=ar.pull (.there<|bu.here (X:=[_]));rw[za_] at ar;replace ar:=ar.pull (.there (.there (.there<|bu.here (X:=I))));replace ar:=ar.pull (.bV (.there (.there<|bu.here (X:=[_]))));rw[za_] at ar;obtain⟨K1,ao,u,ar⟩:=ar.bF (M:=(b2,.row us 42 false)::I);have cd:bO K1 1 (RL K1 2 dK) (eO init threads) (.slice b2 0 init.length (.known init.length)):=by rw[zD];exact eX.fg hI (fun e he=>u _ (.tail _ he)) (u _ (.head _)) (by rw[nv]) (by rw[nv];omega)
 clear u;replace hi:=hi.mono ao fun _ _ h=>h;replace ht:=ht.mono ao fun _ _ h=>h.mono ao
 refine vQ 1 Z (J Z (W5 ht Z Z Z (e:=25) Z) Z (UI 4 Z (bk (rg 10 5++rg 58 35) (fun j t O=>∃(i2:Nat) (K2:KP) (u2 u3:V) (M2 M3:Own),j+i2=threads.length/\KP.le K1 K2/\cy 2 87 dK ((Ds threads i2 0).map (·.1)) u2 M2/\cy 1 42 (RL K2 2 dK) ((Ds threads i2 0).map<|kX init threads) u3 M3/\t.get 58=some (nI i2)/\H O K2 (M3++(M2++((b3,.row [vi,vt,u2,u3,.slice b2 0 init.length (.known init.length)] 45 false)::(b1,.row [.av,.av,.av,.av,.av] 45 false)::L)))) (threads.length) ⟨0,K1,.av,.av,[],[],Z,KP.le_refl _,cy.nil,cy.nil,Z,ar⟩ ?_)))
 clear ar;intro ce t O ak hI;obtain⟨i2,K2,u2,u3,M2,M3,cv,hK2,hR2,hS2,bp,ar⟩:=hI;obtain⟨oo,rfl⟩:=ak.q1 bp Z;have hiA:=hi.mono hK2 fun _ _ h=>h;have htA:=ht.mono hK2 fun _ _ h=>h.mono hK2;have hwA:=cd.mono hK2 fun _ _ h=>h.mono hK2
 refine Vv 6 Z<|aG Z (fun ab=>?_) (fun ab=>?_)
 ·refine SF 7 Z ?_;obtain⟨a3,d,cw⟩:=di ab;refine WV (e:=25) (m:=1) htA d Z Z Z Z (fun df cx bq c0 bs=>?_);have hr61':=bs;obtain⟨dk,rfl,a9⟩:=hr61';refine J Z (W7 ar bq Z Z) Z (UK 7 Z (J Z (W5 a9 Z Z Z (e:=38) Z) Z (UI 4 Z (bk ([12,13,14]++rg 65 27) (fun j t O=>∃(k2:Nat) (K3:KP) (u4 u5:V) (M4 M5:Own),j+k2=a3.length/\KP.le K2 K3/\cy 2 87 dK ((Ds threads i2 k2).map (·.1)) u4 M4/\cy 1 42 (RL K3 2 dK) ((Ds threads i2 k2).map<|kX init threads) u5 M5/\t.get 65=some (nI k2)/\H O K3 (M5++(M4++((b3,.row [vi,vt,u4,u5,.slice b2 0 init.length (.known init.length)] 45 false)::(b1,.row [.av,.av,.av,.av,.av] 45 false)::L)))) (a3.length) ⟨0,K2,u2,u3,M2,M3,Z,KP.le_refl _,hR2,hS2,Z,ar⟩ ?_))))
  clear ar;intro bt t O ak hI;obtain⟨k2,K3,u4,u5,M4,M5,c1,hK3,hR4,hS4,bv,ar⟩:=hI;obtain⟨oo,rfl⟩:=ak.q1 bv Z;have hiB:=hiA.mono hK3 fun _ _ h=>h;have htB:=htA.mono hK3 fun _ _ h=>h.mono hK3;have hwB:=hwA.mono hK3 fun _ _ h=>h.mono hK3;have hkB:=a9.mono hK3 fun _ _ h=>h
  refine Vv 6 Z<|aG Z (fun N=>?_) (fun N=>?_)
  ·refine SF 7 Z ?_;obtain⟨a4,Q,c2⟩:=di N;refine WV (e:=38) (m:=5) hkB Q Z Z Z Z (fun dl c3 bw c4 bD=>?_);obtain rfl:=bD;refine J Z (W8 ar bw Z Z) Z<|kb ar (W6 (cs:=[D,D,D,D,D])) (fun O b4 ar=>?_);refine vQ 1 Z<|ks ar (Xb Z Z Z ar.g0 Z) (fun O ar=>?_);refine UK 4 Z<|J Z (Xe Z ar.g0 Z) Z<|kx (W2 Z Z Z) (wI hG a4 ar) (fun O ar=>?_);refine Vy 2 Z<|aG Z (fun a0=>?_) (fun a0=>?_)
   ·refine Vw 3 Z (J Z (ay (v:=nI (i2+1)) Z Z<|cI<|aX (by have:=aM ab;omega)) Z (vQ 1 Z (J Z (W1 (places:=[(0,1),(1,1)]) (zero:=[D,D]) (cs:=[_,_]) Z) Z<|kb ar (W6 (cs:=[D,D])) (fun O b5 ar=>?_))));refine ks ar (W9 Z Z Z ar.g0 Z) (fun O ar=>?_);refine Vy 2 Z (aL (l:=[(0,[]),(1,[]),(2,[]),(3,[]),(5,[]),(6,[]),(7,[]),(8,[]),(9,[]),(4,[6,7,8,9]),(13,[]),(10,[6]),(11,[]),(12,[]),(14,[]),(15,[]),(16,[])]) U U ?_);have hek:=ac _ (gB_ d) _ (gB_ Q);obtain⟨ln,aa,E⟩:=Cr hek (s6 a0);obtain⟨v0,bH⟩:=dc E;have hos:=Dm (init:=init) (threads:=threads) E;have ch:((zC threads (.ofNat ln)).map (·.1)).length<=1000:=by have h1:=List.length_filter_le (fun p:bS×cm=>bif bz p.2 then F p.2.loc (.ofNat ln) else false) (qa 0 threads);have h2:=tH (l:=threads) (t:=0) T;rw[lM_];unfold zC;omega
    have hrl:=wW (t:=i2) (k:=k2) h4 T;refine ah Z Z (W3 2 Z) Z<|ah Z Z (W4 Z ar.pop.pop.bG.bG.g0 Z) Z<|ah Z Z (Xc Z ar.g0 Z) Z<|gx ar Z Z (bN (e:=87) (m:=2) (z:=[D,D]) (cs:=[_,_]) U U U U<|aZ Z Z Z Z bE) (fun _=>Z) (fun O b6 ar=>?_);refine ah Z Z (W3 3 Z) Z<|ah Z Z (W4 Z ar.pop.pop.pop.bG.bG.g0 Z) Z<|ah Z Z (Xe Z ar.pop.pop.pop.bG.bG.g0 Z) Z<|ah Z Z (Xc Z ar.g1 Z) Z<|ah Z Z (Xe Z (ar.get 2 Z) Z) Z ?_;replace ar:=ar.pull (.there (.there (.there (.bV<|bu.here (X:=M4)))));replace ar:=ar.pull (.bV<|bu.here (X:=[_]));rw[za_] at ar;refine gP (R:=dK) (m:=2) (e:=87) hR4 ar (dn (m:=2) Z (show dK ⟨.ofNat (i2+1),.ofNat k2⟩ _ from Z)) dK.leaf (by rw[lM_];simp only[zc_,List.length_nil];omega) Z Z Z Z Z Z Z Z (fun _=>Z) (fun O dm b0 hO80 ar=>?_);refine⟨(bj (bx Z Z Z Z Z (W4 Z ar.bG.pop.pop.bG.g0 Z) (hS4.uT (K:=fun _ _=>False)).dQ)<|bj (bx Z Z Z Z Z (Xe Z ar.bG.pop.pop.bG.g0 Z)<|gT<|cP hiB.iK<|cP htB.iK<|cP (hR4.uT (K:=fun _ _=>False)).iK<|cP (hS4.uT (K:=fun _ _=>False)).iK<|cP hwB.iK gf)<|bj (bx Z Z Z Z Z (Xc Z ar.bG.g0 Z)<|gT<|cP (fe _ _)<|cP (fe _ _) gf)<|bj (bx Z Z Z Z Z (Xe Z ar.bG.pop.g0 Z)<|gT<|cP (fe _ _)<|cP (fe _ _)<|cP (fe _ _)<|cP (fe _ _)<|cP (fe _ _) gf) aT),?_⟩;refine ah Z Z (W3 2 Z) Z<|ed Z Z (W2 Z Z Z) (fun _=>Z) (Rg hG hiB htB hwB ⟨hR4.leaf.2,hR4.leaf.1⟩ ⟨hS4.leaf.2,hS4.leaf.1⟩ ⟨.ofNat (i2+1),.ofNat k2⟩ a4 aa bH hos Qt ch ar) ?_;rintro dr O ⟨ci,hM86,ar⟩;refine⟨(bj (bx Z Z Z Z Z (W4 Z ar.bG.bG.pop.pop.bG.g0 Z) (hS4.uT (K:=fun _ _=>False)).dQ) aT),?_⟩;obtain⟨K4,ba,u,ar⟩:=ar.bF (M:=ci);have hs86:=hM86.fg (K:=K4) u;clear u;have hS4m:=hS4.fS (R':=RL K4 2 dK) fun _ _ h=>h.mono ba
    refine gx ar Z Z (bN (e:=42) (m:=1) (z:=[.av]) (cs:=[_]) U U U U<|aZ Z Z hs86.leaf.1 Z bE) (fun _=>Z) (fun O b7 ar=>?_);replace ar:=ar.pull (.there (.bV (.there (.there<|bu.here (X:=M5)))));replace ar:=ar.pull (.bV<|bu.here (X:=[_]));rw[za_] at ar;refine gP (R:=RL K4 2 dK) (m:=1) (e:=42) hS4m ar (dn (m:=1) Z (show RL K4 2 dK (AG v0 threads ((zC threads (.ofNat ln)).map (·.1)) ⟨.ofNat (i2+1),.ofNat k2⟩ a4) _ from⟨_,Z,hs86⟩)) z8 (by rw[lM_];simp only[zc_,List.length_nil];omega) Z Z Z Z Z Z Z Z (fun _=>Z) (fun O ds b8 hO88 ar=>?_)
    refine⟨aT,?_⟩;refine eF ar (.bV (.bV (.there (.there .here)))) Z Z (aO Z Z hO80.leaf.1 ar.bG.bG.pop.pop.g0 (m:=1) U Z (lb Z) (aj hO80.leaf.2 aC) (cells':=[_,_,_,_,_]) Z) Z (fun O ar=>?_);refine⟨aT,?_⟩;refine ah Z Z (W3 3 Z) Z<|eF ar (.bV (.bV (.there (.there .here)))) Z Z (aO Z Z hO88.leaf.1 ar.bG.bG.pop.pop.g0 (m:=1) U Z (lb Z) (aj hO88.leaf.2 aC) (cells':=[_,_,_,_,_]) Z) Z (fun O ar=>?_);refine⟨aT,?_⟩;refine aV<|az<|Wd 4 Z ?_;replace ar:=ar.pull (.bV (.bV (.there (.there (.there<|bu.here (X:=[_]))))));rw[za_] at ar;replace ar:=ar.pull (.there (.bV (.bV (.there (.there<|bu.here (X:=[_]))))));rw[za_] at ar;replace ar:=ar.pull (.there (.there (.bV<|bu.here (X:=b0))));replace ar:=ar.pull (.bV (.there (.there<|bu.here (X:=b8))));replace ar:=ar.pull (.bV (.bV (.there (.there (.there<|bu.here (X:=[_]))))));rw[za_] at ar;replace ar:=ar.pull (.there (.bV (.bV (.there (.there<|bu.here (X:=[_]))))));rw[za_] at ar;have ar:=ar.pop;have ar:=ar.pop;refine aD ⟨bt-1,(by have:=aM N;omega),oF,k2+1,K4,_,_,b0,b8,(by have:=aM N;omega),KP.le_trans hK3 ba,(by rw[wX d Q a0,List.map_append];exact hO80),(by rw[wX d Q a0,List.map_append];show cy 1 42 _ (_++[kX init threads (⟨.ofNat (i2+1),.ofNat k2⟩,a4)]) _ _;rw[<-Gl aa bH,aa];exact hO88),cI (aX (by have:=aM N;have:=T _ (gB_ d);omega)),ar⟩
   refine aI<|az<|Wd 4 Z ?_;replace ar:=ar.pull (.there (.bV (.bV (.there<|bu.here (X:=[_])))));rw[za_] at ar;replace ar:=ar.pull (.there (.there (.bV (.bV<|bu.here (X:=[_])))));rw[za_] at ar;replace ar:=ar.pull (.there (.there (.there (.bV<|bu.here (X:=M4)))));replace ar:=ar.pull (.bV (.there (.there (.there<|bu.here (X:=M5)))));replace ar:=ar.pull (.bV (.bV (.there (.there<|bu.here (X:=[_])))));rw[za_] at ar;have ar:=ar.pop;refine aD ⟨bt-1,(by have:=aM N;omega),oF,k2+1,K3,u4,u5,M4,M5,(by have:=aM N;omega),hK3,(by rw[G4 d Q a0];exact hR4),(by rw[G4 d Q a0];exact hS4),cI (aX (by have:=aM N;have:=T _ (gB_ d);omega)),ar⟩
  refine UH 3 Z<|aN<|az<|Wd 4 Z<|aD ⟨ce-1,(by have:=aM ab;omega),oF,i2+1,K3,u4,u5,M4,M5,(by have:=aM ab;omega),KP.le_trans hK2 hK3,(by rw[<-ze d,show a3.length=k2 by have:=bK N;omega];exact hR4),(by rw[<-ze d,show a3.length=k2 by have:=bK N;omega];exact hS4),cI<|aX (by have:=aM ab;omega),ar⟩
 refine UH 3 Z<|aN<|Vw 2 Z<|J Z (Xe Z ar.bG.bG.g0 Z) Z<|iM ar (.bV (.bV (.there .here))) Z (Sx Z Z Z ar.bG.bG.pop.g0 (m:=5) Z (aj hiA.leaf.2<|aj htA.leaf.2<|aj hR2.leaf.2<|aj hS2.leaf.2<|aj hwA.leaf.2 aC) (cells':=[_,_,_,_,_]) Z) Z (fun O ar=>?_);refine VA 3 Z ?_;rw[CJ<|bK ab] at hR2 hS2;replace ar:=ar.pull (.bV (.bV (.there<|bu.here (X:=[_]))));rw[za_] at ar;replace ar:=ar.pull (.there (.bV (.bV<|bu.here (X:=[_]))));rw[za_] at ar;replace ar:=ar.pull (.there (.there (.bV<|bu.here (X:=M2))));replace ar:=ar.pull (.bV (.there (.there<|bu.here (X:=M3))));rw[<-lQ_ M3 M2] at ar;obtain⟨K5,ap,u,ar⟩:=ar.bF (M:=M3++M2);exact dh Z Z ar.pop.g0 (m:=5) U Z ⟨K5,_,_,_,KP.le_trans ao<|KP.le_trans hK2 ap,Z,hR2.fg fun e he=>u e (List.mem_append_right _ he),(hS2.fS (R':=RL K5 2 dK) fun _ _ h=>h.mono ap).fg fun e he=>u e (List.mem_append_left _ he),hwA.mono ap fun _ _ h=>h.mono ap,ar.pop.pop⟩
variable {bd sa:Code} {acc:List (List bS)} {pre:List (List α)} {T:List (List α)×List α} {vs:List V} {E bs e j:Nat} {M:Own} {tm:PT V} {bm:Pos} {R:α->List V->Prop}
theorem wS {m b:Nat} {c:rK} {l:List α} {cells:List V} (u:cells.length=l.length*m) (A:∀(i:Nat) (x:α),l[i]? =some x->R x ((cells.drop (i*m)).take m)) (h5:c= .known l.length∨(c= .upto m/\e=E)) (B:l.length<=1048576) {i:Nat} (hi:i<l.length) {y:α} (hy:R y vs) (hv:vs.length=m):
  cy m E R (l.set i y) (.slice b 0 l.length c) [(b,.row (dJ vs cells (i*m)) e false)]:=by
 have hl:i*m+vs.length<=cells.length:=by rw[u,hv,<-Nat.succ_mul];exact nM_ _ hi
 have hlt:(cells.take (i*m)).length=i*m:=by rw[lT_];omega
 rw[lZ vs cells (i*m) hl];refine .inr ⟨b,c,_,e,by rw[zg_],Z,by rw[zg_,lA_,lA_,hlt,lD_];omega,fun j z hz=>?_,by rw[zg_];exact h5,by rw[zg_];exact B⟩
 by_cases e:i=j
 ·subst e;rw[List.getElem?_set_self hi] at hz;cases hz;rw[lQ_,List.drop_append,hlt,Nat.sub_self,List.drop_of_length_le oM,List.nil_append,List.drop_zero,<-hv,List.take_left];exact hy
 rw[List.getElem?_set_ne e] at hz;have h7:=A j z hz
 have he:((cells.take (i*m)++vs++cells.drop (i*m+vs.length)).drop (j*m)).take m=(cells.drop (j*m)).take m:=by
  refine zf_ fun t=>?_
  rw[List.getElem?_take,List.getElem?_take]
  by_cases d:t<m
  ·rw[if_pos d,if_pos d,List.getElem?_drop,List.getElem?_drop]
   by_cases hj:j<i
   ·have C:j*m+m<=i*m:=by rw[<-Nat.succ_mul];exact nM_ _ hj
    rw[lQ_,gL_ (by rw[hlt];omega),List.getElem?_take,if_pos oM]
   have C:i*m+m<=j*m:=by rw[<-Nat.succ_mul];exact nM_ _ oM
   rw[lQ_,gR_ (by rw[hlt];omega),gR_ (by rw[hlt];omega),hlt,List.getElem?_drop];congr 1;omega
  rw[if_neg d,if_neg d]
 rw[he];exact h7
theorem tC {m:Nat} {l:List α} {cells:List V} (d:cells.length=l.length*m) (u:∀(i:Nat) (x:α),l[i]? =some x->R x ((cells.drop (i*m)).take m)) (A:l.length<=1048576) {i:Nat} (hi:i<l.length) {y:α} (hy:R y vs) (hv:vs.length=m):
  (dJ vs cells (i*m)).length=(l.set i y).length*m/\∀(j:Nat) (z:α),(l.set i y)[j]? =some z->R z (((dJ vs cells (i*m)).drop (j*m)).take m):=by
 rcases wS (E:=0) (b:=0) (e:=0) (c:=.known l.length) d u (.inl rfl) A hi hy hv with ⟨_,h',_⟩ | ⟨b,c,cells',e',_,B,C,I,_⟩
 ·cases h'
 cases B;exact⟨C,I⟩
theorem cy.cell {m:Nat} {l:List α} (h:cy m E R l u M) (hl:0<l.length):∃(b:Nat) (c:rK) (cells:List V) (e:Nat),u= .slice b 0 l.length c/\M= [(b,.row cells e false)]/\cells.length=l.length*m/\(∀(i:Nat) (x:α),l[i]? =some x->R x ((cells.drop (i*m)).take m))/\(c= .known l.length∨(c= .upto m/\e=E))/\l.length<=1048576:=by
 rcases h with ⟨rfl,_⟩ | h
 ·cases hl
 exact h
section
variable {P:Program} {G:Cx} {O:aB} {K:KP} {L:Own}
theorem Js {b:Pos} {args:List V} {R:V->aB->Prop} {m:Nat} {ps:List Nat} {t:PT V} (ar:H O K ((b,jy .ready tm m ps sa bd bm)::L)) (hp:vj m ps args tm=some t)
  (h:Ev P G sa m t O fun e B C=>e= .normal/\∃d u,H C d ((b,jy .ready tm m ps sa bd bm)::u)/\∀E,H E d ((b,jy .busy tm m ps sa bd bm)::u)->Ev P G bd m B E fun e _ I=>e= .normal/\∃z A,H I z ((b,jy .busy tm m ps sa bd bm)::A)/\∀M,H M z ((b,jy .ready tm m ps sa bd bm)::A)->R (.bool true) M):qQ P G b args O R:=by
 refine Lv ar.g0 hp<|h.mono fun e B C ⟨he,d,u,h1,Q⟩=>⟨he,h1.get 0 Z,(Q _<|h1.ui _).mono fun e _ I ⟨he,z,A,N,S⟩=>⟨he,N.get 0 Z,S _<|N.ui _⟩⟩
end
theorem tX {t:List α->List (List α)×List α} {n i:Nat} {x d:List α} (hj:1<=j) (hx:(if i<n then uw (t x).2 (if(n+1)%2=0 then i else 0) n else(t x).2)=d) (u:T=(pre++(mE t n j i x).1,(mE t n j i x).2)):T=((pre++(t x).1)++(mE t n (j-1) (i+1) d).1,(mE t n (j-1) (i+1) d).2):=by
 obtain⟨q,rfl⟩:∃q,j=q+1:=⟨j-1,by omega⟩;rw[u]
 have e:mE t n (q+1) i x=((t x).1++(mE t n q (i+1) d).1,(mE t n q (i+1) d).2):=by
  rw[mE];rw[hx]
 rw[e,lQ_];rfl
theorem PS {t:List α->List (List α)×List α} {n i:Nat} {x:List α} (hj:1<=j) (d:T=(pre++(mE t n j i x).1,(mE t n j i x).2)):pre++(t x).1<+:T.1:=by
 obtain⟨q,rfl⟩:∃q,j=q+1:=⟨j-1,by omega⟩;rw[d];refine(List.prefix_append_right_inj _).2 ?_;rw[mE];exact List.prefix_append _ _
theorem IJ {x:List α} {i:Nat} {a b:α} (h1:x[i]? =some a) (d:x[j]? =some b):uw x i j=(x.set i b).set j a:=by unfold uw;rw[h1,d]
theorem HA (Q:Plain G) {d:KP} {b by_ bt N:Nat} {T:List (List bS)} (hN:N<=1000) (A:d by_ (.row [.yield b] 131 false)) (B:d bs (.row [u] 42 false)) (aa:d bt (.row [.func 85 [] [.ptr by_ 0,.ptr bs 0,.ptr bt 0]] 40 false))
  {I:KP->List (List bS)->Own->Prop} (R:∀(K:KP) (acc:List (List bS)) (l:List bS) (M L:Own) (O:aB),KP.le d K->I K acc L->cy 2 87 dK l u M->l.length=N->(acc++[l])<+:T->H O K (M++L)->qQ Tryz.prog G b [u] O fun v O'=>v= .bool true/\∃K' L',KP.le K K'/\I K' (acc++[l]) L'/\H O' K' (M++L'))
  {k:Nat} (hk:k<=1) {K:KP} {l:List bS} {L:Own} {O:aB} (C:KP.le d K) (S:I K acc L) (hO:cy 2 87 dK l u M) (hl:l.length=N) (hp:(acc++[l])<+:T) (ar:H O K (M++L)):
  EC G 85 [nI k,.ptr by_ 0,.ptr bs 0,.ptr bt 0] O fun v O'=>v= .bool true/\∃K' L',KP.le K K'/\I K' (acc++[l]) L'/\H O' K' (M++L'):=by
 have hky0:=C _ _ A;have hks0:=C _ _ B;refine V9 Q Tryz.func85 Z<|Vv 12 Z<|aG Z (fun E=>?_) (fun E=>?_)
 ·refine Vw 2 Z<|J Z (W4 Z (ar.cg hky0) Z) Z<|J Z (W4 Z (ar.cg hks0) Z) Z<|Ph Z (Qy Z Z Z) (fun _=>Z) (R K acc l M L _ C S hO hl hp ar) ?_;rintro _ O ⟨rfl,W,X,z,hI1,ar⟩;refine UM 5 Z ?_;exact aA Z Z ⟨Z,W,X,z,hI1,ar⟩
 exact absurd (aM (a:=1) (b:=k)<|cD E) oM
theorem KQ (hG:Plain G) {K0:KP} {b by_ bs bt N:Nat} {u:V} {T:List (List bS)} (hN:N<=1000) (ao:K0 by_ (.row [.yield b] 131 false)) (ab:K0 bs (.row [u] 42 false)) (ac:K0 bt (.row [.func 85 [] [.ptr by_ 0,.ptr bs 0,.ptr bt 0]] 40 false))
  {I:KP->List (List bS)->Own->Prop} (hY:∀(K:KP) (acc:List (List bS)) (l:List bS) (M L:Own) (O:aB),KP.le K0 K->I K acc L->cy 2 87 dK l u M->l.length=N->(acc++[l])<+:T->H O K (M++L)->qQ Tryz.prog G b [u] O fun v O'=>v= .bool true/\∃K' L',KP.le K K'/\I K' (acc++[l]) L'/\H O' K' (M++L')):
  ∀(k:Nat) (K:KP) (acc:List (List bS)) (l:List bS) (M L:Own) (O:aB),k<=N->KP.le K0 K->I K acc L->cy 2 87 dK l u M->l.length=N->(acc++(eJ (k-1) l).1)<+:T->H O K (M++L)->
   EC G 85 [nI k,.ptr by_ 0,.ptr bs 0,.ptr bt 0] O fun v O'=>v= .bool true/\∃K' M' L',KP.le K K'/\I K' (acc++(eJ (k-1) l).1) L'/\cy 2 87 dK (eJ (k-1) l).2 u M'/\(eJ (k-1) l).2.length=N/\H O' K' (M'++L')
 | 0,K,acc,l,M,L,O,hk,hK,hI,hO,hl,hp,ar=>(HA hG hN ao ab ac hY (k:=0) oM hK hI hO hl hp ar).mono fun v O' ⟨h1,K',L',h2,B,E⟩=>⟨h1,K',M,L',h2,B,hO,hl,E⟩
 | 1,K,acc,l,M,L,O,hk,hK,hI,hO,hl,hp,ar=>(HA hG hN ao ab ac hY (k:=1) oM hK hI hO hl hp ar).mono fun v O' ⟨h1,K',L',h2,B,E⟩=>⟨h1,K',M,L',h2,B,hO,hl,E⟩
 | k+2,K,acc,l,M,L,O,hk,hK,hI,hO,hl,hp,ar=>by
  have hks0:=hK _ _ ab;have hkt0:=hK _ _ ac;refine V9 hG Tryz.func85 Z<|Vv 12 Z<|aG Z (fun h9=>?_) (fun h9=>?_)
  ·exact absurd (bK (a:=1) (b:=k+2)<|cY h9) oM
  refine TC 10 Z (bk ([5,6,7]++rg 14 33) (fun j t O=>∃(i:Nat) (K1:KP) (pre:List (List bS)) (li:List bS) (Mi Li:Own),j+i=k+2/\KP.le K K1/\I K1 (acc++pre) Li/\cy 2 87 dK li u Mi/\li.length=N/\eJ (k+1) l=(pre++(mE (eJ k) (k+1) j i li).1,(mE (eJ k) (k+1) j i li).2)/\t.get 14=some (nI i)/\H O K1 (Mi++Li)) (k+2) ⟨0,K,[],l,M,L,Z,KP.le_refl _,(by rw[zk_];exact hI),hO,hl,(by rw[eJ];rfl),Z,ar⟩ ?_);clear ar;intro j4 t O ak hI;obtain⟨i,K1,pre,li,Mi,Li,a0,hK1,hI1,hO1,ap,hE1,aE,ar⟩:=hI;obtain⟨oo,rfl⟩:=ak.q1 aE Z;have hks1:=hK1 _ _ hks0;have hkt1:=hK1 _ _ hkt0;refine Vv 6 Z<|aG Z (fun d=>?_) (fun d=>?_)
  ·refine SE 11 Z (Vw 2 Z (J Z (W4 Z (ar.cg hkt1) Z) Z (vQ 1 Z (J Z (ay (v:=nI (k+1)) Z Z<|cI<|fD oM) Z (kw (W2 Z Z Z) (KQ hG hN ao ab ac hY (k+1) K1 (acc++pre) li Mi Li _ oM (KP.le_trans hK hK1) hI1 hO1 ap ((show(acc++pre)++(eJ k li).1<+:acc++(eJ (k+1) l).1 from by rw[lQ_];exact(List.prefix_append_right_inj _).2<|PS (by have:=aM d;omega) hE1).trans hp) ar) ?_)))));rintro _ O ⟨rfl,K2,M2,L2,z,hI2,hO2,C,ar⟩;replace hI2:I K2 (acc++pre++(eJ k li).1) L2:=hI2;replace hO2:cy 2 87 dK (eJ k li).2 u M2:=hO2;replace C:(eJ k li).2.length=N:=C;have hks2:=z _ _ hks1;refine J Z (dW Z) Z<|Vy 3 Z<|UF 15 Z<|aG Z (fun am=>?_) (fun am=>?_)
   ·refine UG 9 Z (J Z (ay (v:=nI (k+1)) Z Z<|cI<|fD oM) Z<|Vy 3 Z<|aG Z (fun A=>?_) (fun A=>?_))
    ·refine aL (l:=[(0,[]),(1,[]),(2,[]),(3,[]),(4,[]),(5,[]),(6,[]),(7,[]),(8,[]),(9,[]),(10,[]),(11,[]),(12,[]),(13,[]),(14,[]),(15,[2]),(16,[]),(17,[])]) U U ?_;have Q:i<k+1:=aM A;obtain⟨bb,cc,cells,ee,hu,hM,B,E,h5,h6⟩:=hO2.cell oM;subst hM;replace ar:H O K2 ((bb,.row cells ee false)::L2):=ar;obtain⟨xk,S⟩:=dc (show k+1<(eJ k li).2.length by omega);obtain⟨xj,W⟩:=dc (show i<(eJ k li).2.length by omega);have X:i<(eJ k li).2.length:=by omega
     have aa:k+1<(eJ k li).2.length:=by omega
     refine ah Z Z (W4 Z (ar.cg hks2) Z) Z (wQ 1 Z (ah Z Z (W4 Z (ar.cg hks2) Z) Z (wQ 1 Z (ah Z Z (ay (v:=nI (k+1)) Z Z<|cI<|fD oM) Z (ah Z Z (W4 Z (ar.cg hks2) Z) Z (wQ 1 Z (ah Z Z (ay (v:=nI (k+1)) Z Z<|cI<|fD oM) Z<|ah Z Z (eH (e:=87) (m:=2) Z U (congrArg some hu) Z aa) Z<|ah Z Z (aW Z ar.g0 (n:=2) (vs:=[.int .i64 xk.bH,.int .i64 xk.index]) U (show 0+(k+1)*2+2<=cells.length by rw[B];omega) (by rw[nA_];exact E _ _ S)) Z<|ah Z Z (W4 Z (ar.cg hks2) Z) Z<|wQ 1 Z<|ah Z Z (eH (e:=87) (m:=2) Z U (congrArg some hu) Z X) Z<|ah Z Z (aW Z ar.g0 (n:=2) (vs:=[.int .i64 xj.bH,.int .i64 xj.index]) U (show 0+i*2+2<=cells.length by rw[B];omega) (by rw[nA_];exact E _ _ W)) Z ?_)))))));refine ah Z Z (eH (e:=87) (m:=2) Z U (congrArg some hu) Z X) Z<|eF ar .here Z Z (gn Z Z Z ar.g0 (m:=2) U Z (show 0+i*2+2<=cells.length by rw[B];omega) Z) Z (fun O ar=>?_);refine⟨(bj (bx Z Z Z Z Z (W4 Z (ar.cg hks2) Z) (hO2.uT (K:=fun _ _=>False)).dQ) aT),?_⟩;rw[nA_] at ar;obtain⟨k3,k4⟩:=tC (R:=dK) B E h6 (i:=i) oM (y:=xk) (vs:=[.int .i64 xk.bH,.int .i64 xk.index]) Z Z;refine ah Z Z (eH (e:=87) (m:=2) Z U (congrArg some hu) Z aa) Z<|eF ar .here Z Z (gn Z Z Z ar.g0 (m:=2) U Z (by rw[k3,zg_];omega) Z) Z (fun O ar=>?_);refine⟨aT,?_⟩;rw[nA_] at ar;obtain⟨k5,k6⟩:=tC (R:=dK) k3 k4 (by rw[zg_];omega) (i:=k+1) (by rw[zg_];omega) (y:=xj) (vs:=[.int .i64 xj.bH,.int .i64 xj.index]) Z Z;have hO4:cy 2 87 dK (((eJ k li).2.set i xk).set (k+1) xj) u [(bb,_)]:=.inr ⟨bb,cc,_,ee,by rw[zg_,zg_];exact hu,Z,k5,k6,by rw[zg_,zg_];exact h5,by rw[zg_,zg_];exact h6⟩;refine aV<|az<|Wd 4 Z ?_;refine aD ⟨j4-1,(by have:=aM d;omega),oF,i+1,K2,pre++(eJ k li).1,((eJ k li).2.set i xk).set (k+1) xj,_,L2,(by have:=aM d;omega),KP.le_trans hK1 z,(by rw[<-lQ_];exact hI2),hO4,by rw[zg_,zg_];exact C,tX (by have:=aM d;omega) (by rw[if_pos Q,(show(if(k+1+1)%2=0 then i else 0)=i from if_pos (iJ_ (Lm (a:=.ofNat ((k+2)%2)) am)))];exact IJ W S) hE1,cI<|aX (by have:=aM d;omega),ar⟩
    refine aI<|az<|Wd 4 Z<|aD ⟨j4-1,(by have:=aM d;omega),oF,i+1,K2,pre++(eJ k li).1,(eJ k li).2,M2,L2,(by have:=aM d;omega),KP.le_trans hK1 z,(by rw[<-lQ_];exact hI2),hO2,C,tX (by have:=aM d;omega) (if_neg<|Nat.not_lt.2<|bK A) hE1,cI<|aX (by have:=aM d;omega),ar⟩
   refine UG 6 Z (J Z (ay (v:=nI (k+1)) Z Z<|cI<|fD oM) Z<|Vy 3 Z<|aG Z (fun A=>?_) (fun A=>?_))
   ·refine aL (l:=[(0,[]),(1,[]),(2,[]),(3,[]),(4,[]),(5,[]),(6,[]),(7,[]),(8,[]),(9,[]),(10,[]),(11,[]),(12,[]),(13,[]),(14,[]),(15,[2]),(16,[]),(17,[])]) U U ?_;have Q:i<k+1:=aM A;obtain⟨bb,cc,cells,ee,hu,hM,B,E,h5,h6⟩:=hO2.cell oM;subst hM;replace ar:H O K2 ((bb,.row cells ee false)::L2):=ar;obtain⟨xk,S⟩:=dc (show k+1<(eJ k li).2.length by omega);obtain⟨xj,W⟩:=dc (show 0<(eJ k li).2.length by omega);have X:0<(eJ k li).2.length:=by omega
    have aa:k+1<(eJ k li).2.length:=by omega
    refine ah Z Z (W4 Z (ar.cg hks2) Z) Z (wQ 1 Z (ah Z Z (W4 Z (ar.cg hks2) Z) Z (wQ 1 Z (ah Z Z (ay (v:=nI (k+1)) Z Z<|cI<|fD oM) Z (ah Z Z (W4 Z (ar.cg hks2) Z) Z (wQ 1 Z (ah Z Z (ay (v:=nI (k+1)) Z Z<|cI<|fD oM) Z<|ah Z Z (eH (e:=87) (m:=2) Z U (congrArg some hu) Z aa) Z<|ah Z Z (aW Z ar.g0 (n:=2) (vs:=[.int .i64 xk.bH,.int .i64 xk.index]) U (show 0+(k+1)*2+2<=cells.length by rw[B];omega) (by rw[nA_];exact E _ _ S)) Z<|ah Z Z (W4 Z (ar.cg hks2) Z) Z<|wQ 1 Z<|ah Z Z (eH (e:=87) (m:=2) Z U (congrArg some hu) Z X) Z<|ah Z Z (aW Z ar.g0 (n:=2) (vs:=[.int .i64 xj.bH,.int .i64 xj.index]) U (show 0+0*2+2<=cells.length by rw[B];omega) (by rw[nA_];exact E _ _ W)) Z ?_)))))));refine ah Z Z (eH (e:=87) (m:=2) Z U (congrArg some hu) Z X) Z<|eF ar .here Z Z (gn Z Z Z ar.g0 (m:=2) U Z (show 0+0*2+2<=cells.length by rw[B];omega) Z) Z (fun O ar=>?_);refine⟨(bj (bx Z Z Z Z Z (W4 Z (ar.cg hks2) Z) (hO2.uT (K:=fun _ _=>False)).dQ) aT),?_⟩;rw[nA_] at ar;obtain⟨k3,k4⟩:=tC (R:=dK) B E h6 (i:=0) oM (y:=xk) (vs:=[.int .i64 xk.bH,.int .i64 xk.index]) Z Z;refine ah Z Z (eH (e:=87) (m:=2) Z U (congrArg some hu) Z aa) Z<|eF ar .here Z Z (gn Z Z Z ar.g0 (m:=2) U Z (by rw[k3,zg_];omega) Z) Z (fun O ar=>?_);refine⟨aT,?_⟩;rw[nA_] at ar;obtain⟨k5,k6⟩:=tC (R:=dK) k3 k4 (by rw[zg_];omega) (i:=k+1) (by rw[zg_];omega) (y:=xj) (vs:=[.int .i64 xj.bH,.int .i64 xj.index]) Z Z;have hO4:cy 2 87 dK (((eJ k li).2.set 0 xk).set (k+1) xj) u [(bb,_)]:=.inr ⟨bb,cc,_,ee,by rw[zg_,zg_];exact hu,Z,k5,k6,by rw[zg_,zg_];exact h5,by rw[zg_,zg_];exact h6⟩;refine aV<|az<|Wd 4 Z ?_;refine aD ⟨j4-1,(by have:=aM d;omega),oF,i+1,K2,pre++(eJ k li).1,((eJ k li).2.set 0 xk).set (k+1) xj,_,L2,(by have:=aM d;omega),KP.le_trans hK1 z,(by rw[<-lQ_];exact hI2),hO4,by rw[zg_,zg_];exact C,tX (by have:=aM d;omega) (by rw[if_pos Q,(show(if(k+1+1)%2=0 then i else 0)=0 from if_neg fun h=>by rw[show F (Int.tmod (.ofNat (k+2)) 2) 0=F (.ofNat ((k+2)%2)) 0 from Z,h] at am;exact Bool.noConfusion (show true=false from am))];exact IJ W S) hE1,cI<|aX (by have:=aM d;omega),ar⟩
   refine aI<|az<|Wd 4 Z<|aD ⟨j4-1,(by have:=aM d;omega),oF,i+1,K2,pre++(eJ k li).1,(eJ k li).2,M2,L2,(by have:=aM d;omega),KP.le_trans hK1 z,(by rw[<-lQ_];exact hI2),hO2,C,tX (by have:=aM d;omega) (if_neg<|Nat.not_lt.2<|bK A) hE1,cI<|aX (by have:=aM d;omega),ar⟩
  refine UH 3 Z<|aN<|Wf 6 Z ?_;obtain rfl:j4=0:=by have:=bK d;omega
  have e1:(eJ (k+1) l).1=pre:=by rw[hE1];exact zk_ _
  have e2:(eJ (k+1) l).2=li:=by rw[hE1];rfl
  exact aA Z Z ⟨Z,K1,Mi,Li,hK1,(show I K1 (acc++(eJ (k+1) l).1) Li from by rw[e1];exact hI1),(show cy 2 87 dK (eJ (k+1) l).2 u Mi from by rw[e2];exact hO1),(show(eJ (k+1) l).2.length=N from by rw[e2];exact ap),ar⟩
theorem KN (d:Plain G) {v:V} (hv:cG v=some [v]/\eB v=true) (ar:H O K L):
  EC G 40 [v] O fun u O'=>∃K' bl,KP.le K K'/\K' bl (.row [v] 42 false)/\u= .func 83 [] [.ptr bl 0]/\H O' K' L:=by
 refine V9 d Tryz.func40 Z<|Vw 2 Z<|kb ar (cH Z hv.1) (fun O z ar=>?_);refine VA 10 Z ?_;exact aA Z Z (let ⟨A,h1,B,C⟩:=H.bF (M:=[_]) ar;⟨A,z,h1,B _ (.head _),Z,C⟩)
theorem Rh (C:Plain G) {A:KP} {b bl:Nat} {l:List bS} {vl:V} (hv:bO A 2 dK l vl) (W:l.length<=1000) (E:A bl (.row [vl] 42 false)) {I:KP->List (List bS)->Own->Prop}
  (hY:∀(u:V) (K:KP) (acc:List (List bS)) (l2:List bS) (M L:Own) (O:aB),KP.le A K->I K acc L->cy 2 87 dK l2 u M->l2.length=l.length->(acc++[l2])<+:ft l->H O K (M++L)->qQ Tryz.prog G b [u] O fun v O'=>v= .bool true/\∃K' L',KP.le K K'/\I K' (acc++[l2]) L'/\H O' K' (M++L'))
  {L:Own} (Q:∀K,KP.le A K->I K [] L) {O:aB} (ar:H O A L):
  EC G 83 [.yield b,.ptr bl 0] O fun _ O'=>∃K' L',KP.le A K'/\I K' (ft l) L'/\H O' K' L':=by
 refine V9 C Tryz.func83 Z<|Vw 2 Z<|kb ar (cH Z Z) (fun O b1 ar=>?_);refine UK 4 Z<|J Z (W4 Z (ar.cg E) Z) Z<|kw (W2 Z Z Z) (Fl C hv oM ar) ?_;rintro u6 O ⟨R,hM6,ar⟩;refine kb ar (W6 (cs:=[.av])) (fun O b2 ar=>?_);refine iM ar .here Z (aO Z Z hM6.leaf.1 ar.g0 (m:=1) U Z (lb Z) (aj hM6.leaf.2 aC) (cells':=[_]) Z) Z (fun O ar=>?_);refine UK 4 Z<|kb ar (W6 (cs:=[.nilFunc])) (fun O b3 ar=>?_);refine UK 5 Z<|ks ar (Sx Z Z Z ar.g0 (m:=1) Z Z (cells':=[_]) Z) (fun O ar=>?_);refine Vz 3 Z<|Wk ar 2 [0,1] Z Z<|J Z (Dn hM6 Z Z Z (e:=87) U Z) Z ?_;replace ar:=ar.pull (.there (.there<|bu.here (X:=R)));replace ar:=ar.pull (.bV (.there (.there<|bu.here (X:=[_]))));rw[za_] at ar;replace ar:=ar.pull (.there (.bV (.there<|bu.here (X:=[_]))));rw[za_] at ar;replace ar:=ar.pull (.there (.there (.bV<|bu.here (X:=[_]))));rw[za_] at ar;obtain⟨S,d,z,ar⟩:=ar.bF (M:=[_,_,_]);refine kw (W2 Z Z Z) (KQ C (N:=l.length) W (z _ (.tail _ (.tail _ (.head _)))) (z _ (.tail _ (.head _))) (z _ (.head _)) (I:=I) (T:=ft l) (fun K acc l2 M L O hK Q hO hl hp ar=>hY u6 K acc l2 M L O (KP.le_trans d hK) Q hO hl hp ar) l.length S [] l R L _ (nR_ _) (KP.le_refl _) (Q S d) hM6 Z (List.prefix_refl _) ar) ?_;rintro _ O ⟨rfl,K2,M2,L2,B,hI2,hO2,aa,ar⟩;refine af ?_;exact vO Z ⟨K2,L2,KP.le_trans d B,hI2,ar.bG⟩
variable {x:Operand}
abbrev Rn:=Nat->Nat->Bool
def bL:Nat->(Nat->Bool)->Nat
 | 0,_=>0
 | n+1,p=>bL n p ||| (bif p n then 2 ^ n else 0)
theorem dw:∀(n:Nat) (p:Nat->Bool) (j:Nat),(bL n p).testBit j=(decide (j<n) && p j)
 | 0,p,j=>by simp[bL]
 | n+1,p,j=>by
  unfold bL;rw[Nat.testBit_or,dw n p j]
  by_cases h:j=n
  ·subst h;cases hp:p j<;>simp[Nat.testBit_two_pow]
  have d:decide (j<n+1)=decide (j<n):=by simp;omega
  rw[d];cases hp:p n<;>simp[Nat.testBit_two_pow]<;>omega
theorem DF (n:Nat) (p:Nat->Bool):bL n p<2 ^ n:=by
 refine Nat.lt_pow_two_of_testBit _ fun i hi=>?_
 rw[dw];simp;omega
theorem cX {n:Nat} (h:n<=64) (p:Nat->Bool):bL n p<2 ^ 64:=zh_ (DF n p) (Nat.pow_le_pow_right oM h)
theorem jq {n:Nat} {p q:Nat->Bool} (h:∀j,j<n->p j=q j):bL n p=bL n q:=by
 refine Nat.eq_of_testBit_eq fun i=>?_
 rw[dw,dw]
 by_cases hi:i<n
 ·rw[h i hi]
 simp[hi]
theorem pN (n:Nat) (p q:Nat->Bool):bL n p ||| bL n q=bL n fun j=>p j || q j:=by
 refine Nat.eq_of_testBit_eq fun i=>?_
 rw[Nat.testBit_or,dw,dw,dw];cases decide (i<n)<;>simp
theorem Ae (n:Nat) (p q:Nat->Bool):bL n p &&& bL n q=bL n fun j=>p j && q j:=by
 refine Nat.eq_of_testBit_eq fun i=>?_
 rw[Nat.testBit_and,dw,dw,dw];cases decide (i<n)<;>simp
theorem km {n:Nat} (p:Nat->Bool) (h:j<n):bL n p ||| 2 ^ j=bL n fun k=>p k || decide (k=j):=by
 refine Nat.eq_of_testBit_eq fun i=>?_
 rw[Nat.testBit_or,dw,dw,Nat.testBit_two_pow]
 by_cases hi:i<n
 ·simp only[hi,decide_true,zp_];congr 1;simp[eq_comm]
 have:¬j=i:=by omega
 simp[hi,this]
theorem kq (n:Nat):bL n (fun _=>false)=0:=by
 refine Nat.eq_of_testBit_eq fun i=>?_
 rw[dw];simp
theorem qU {n:Nat} {p q:Nat->Bool} (h:bL n p=bL n q) (hj:j<n):p j=q j:=by
 have:=congrArg (fun x=>x.testBit j) h;simp only[dw,hj,decide_true,zp_] at this;exact this
theorem Sp (h:j<=9223372036854775807):wr .u64 (.ofNat j)= .ofNat j:=by
 have:QM .u64 (.ofNat j)=true:=by show Nat.ble j 18446744073709551615=true;rw[nE_];omega
 unfold wr;rw[this];rfl
theorem wU (j:Nat):(2:Int) ^ j= .ofNat (2 ^ j):=by show(2:Int) ^ j=((2 ^ j:Nat):Int);rw[Int.natCast_pow];rfl
theorem su {x:Nat} (h:j<64):F (Int.tmod (Int.fdiv (.ofNat x) (2 ^ min (Int.toNat (.ofNat j)) 64)) 2) 1=x.testBit j:=by
 have e1:min (Int.toNat (.ofNat j)) 64=j:=by show min j 64=j;omega
 rw[e1,wU]
 have e2:Int.fdiv (.ofNat x) (.ofNat (2 ^ j))= .ofNat (x/2 ^ j):=by
  show Int.fdiv ((x:Nat):Int) ((2 ^ j:Nat):Int)=_;rw[Int.fdiv_eq_ediv_of_nonneg _<|Int.natCast_nonneg _];rfl
 rw[e2];have d:Int.tmod (.ofNat (x/2 ^ j)) 2= .ofNat (x/2 ^ j%2):=rfl;rw[d,Nat.testBit_eq_decide_div_mod_eq];show Nat.beq (x/2 ^ j%2) 1=_
 by_cases hh:x/2 ^ j%2=1
 ·rw[hh];rfl
 rw[decide_eq_false hh];cases hb:Nat.beq (x/2 ^ j%2) 1 with
 | false=>rfl
 | true=>exact absurd (nB hb) hh
section
variable {P:Program} {k:Bool} {ty:TypeId}
theorem Hq {x:Nat} (h:x<2 ^ 64):IntKind.u64.wrap ((x:Nat):Int)= .ofNat x:=by
 unfold IntKind.wrap;show(let m:=((x:Nat):Int)%(2 ^ 64:Int);if false && _ then _ else m)=_;simp only[Bool.false_and,zi_,if_false];show((x:Nat):Int)%((2 ^ 64:Nat):Int)=((x:Nat):Int);rw[<-Int.natCast_emod,Nat.mod_eq_of_lt h]
theorem Us {x:Nat} (h:x<2 ^ 64):wr .u64 (.ofNat x)= .ofNat x:=by
 unfold wr;cases QM .u64 (.ofNat x) with
 | true=>rfl
 | false=>exact Hq h
theorem OF {x:Nat} (h:x<2 ^ 64):(BitVec.ofInt 64 (.ofNat x)).toNat=x:=by
 rw[show BitVec.ofInt 64 (.ofNat x)=BitVec.ofNat 64 x from BitVec.ofInt_natCast ..,BitVec.toNat_ofNat,Nat.mod_eq_of_lt h]
theorem wo (h:j<64):pH P k .shl ty (.int .u64 1) (.int .u64 (.ofNat j))=some (.int .u64 (.ofNat (2 ^ j))):=by
 have e:min (Int.toNat (.ofNat j)) 64=j:=by show min j 64=j;omega
 have:wr .u64 (1*2 ^ min (Int.toNat (.ofNat j)) 64)= .ofNat (2 ^ j):=by
  rw[e,wU,Int.one_mul];exact Us<|Nat.pow_lt_pow_right oM h
 cases k<;>exact congrArg (fun z=>some (V.int .u64 z)) this
theorem wD {x y:Nat} (hx:x<2 ^ 64) (hy:y<2 ^ 64):pH P k .or ty (.int .u64 (.ofNat x)) (.int .u64 (.ofNat y))=some (.int .u64 (.ofNat<|x ||| y)):=by
 have:IntKind.u64.wrap (((BitVec.ofInt 64 (.ofNat x) ||| BitVec.ofInt 64 (.ofNat y)).toNat:Nat):Int)= .ofNat (x ||| y):=by
  rw[BitVec.toNat_or,OF hx,OF hy];exact Hq<|Nat.or_lt_two_pow hx hy
 cases k<;>exact congrArg (fun z=>some (V.int .u64 z)) this
theorem ss {x y:Nat} (hx:x<2 ^ 64) (hy:y<2 ^ 64):pH P k .and ty (.int .u64 (.ofNat x)) (.int .u64 (.ofNat y))=some (.int .u64 (.ofNat<|x &&& y)):=by
 have:IntKind.u64.wrap (((BitVec.ofInt 64 (.ofNat x) &&& BitVec.ofInt 64 (.ofNat y)).toNat:Nat):Int)= .ofNat (x &&& y):=by
  rw[BitVec.toNat_and,OF hx,OF hy];exact Hq<|Nat.and_lt_two_pow x hy
 cases k<;>exact congrArg (fun z=>some (V.int .u64 z)) this
theorem fE {ev:Operand->Option V} {s d:TypeId} (hj:j<=9223372036854775807) (hk:kindOf P (.convert s d x)= .pure) (u:P.underlying s=some (.int .i64)) (hd:P.underlying d=some (.int .u64)) (hx:ev x=some (.int .i64 (.ofNat j))):eo P G ev O (.convert s d x)= .val (.int .u64 (.ofNat j)) O:=by
 rw[Sy hk u hd hx,Sp hj]
end
def gU (x:Nat):V:=.int .u64 (.ofNat x)
def RU (x:Nat) (vs:List V):Prop:=vs= [gU x]
def bC (n:Nat) (R:Rn):List Nat:=(List.range n).map fun i=>bL n (R i)
theorem bQ (n:Nat) (R:Rn):(bC n R).length=n:=by unfold bC;simp
theorem du {n i:Nat} {R:Rn} (h:i<n):(bC n R)[i]? =some (bL n<|R i):=by unfold bC;simp[h]
theorem cF {n:Nat} {R S:Rn} (h:∀i j,i<n->j<n->R i j=S i j):bC n R=bC n S:=by
 unfold bC;refine List.map_congr_left fun i hi=>?_
 exact jq fun j hj=>h i j (List.mem_range.1 hi) hj
theorem oy {n:Nat} {R S:Rn} (h:bC n R=bC n S) {i:Nat} (hi:i<n) (hj:j<n):R i j=S i j:=by
 have:=congrArg (fun l=>l[i]?) h;simp only[du hi,oJ_] at this;exact qU this hj
theorem s9 (n:Nat):List.replicate n 0=bC n fun _ _=>false:=by
 refine zf_ fun k=>?_
 by_cases hk:k<n
 ·rw[du hk,kq,List.getElem?_replicate,if_pos hk]
 rw[gN_ (by simpa using Nat.le_of_not_lt hk),gN_ (by rw[bQ];omega)]
theorem lX {n i:Nat} {R:Rn} {p:Nat->Bool}:(bC n R).set i (bL n p)=bC n fun a b=>bif a == i then p b else R a b:=by
 refine zf_ fun k=>?_
 rw[List.getElem?_set]
 by_cases hk:k<n
 ·rw[du hk,bQ,du hk]
  by_cases e:i=k
  ·subst e;simp[hk]
  have:(k == i)=false:=by simp;omega
  simp[e,this]
 have h1:(bC n R)[k]? =none:=by rw[gN_];rw[bQ];omega
 have d:(bC n fun a b=>bif a == i then p b else R a b)[k]? =none:=by rw[gN_];rw[bQ];omega
 rw[h1,d,bQ];split
 ·split
  ·omega
  rfl
 rfl
theorem dM {l:List Nat} {b n:Nat} {ro:Bool} (h:K b (.row (l.map gU) e ro)) (hn:l.length=n) (hle:n<=1000000):bO K 1 RU l (.slice b 0 n (.known n)):=by
 subst hn;refine .inr ⟨b,0,_,_,e,ro,Z,.inr ⟨_,Z,nR_ _⟩,h,by simp,by omega,fun i x hx=>?_⟩;obtain⟨h1,d⟩:=gA.1 hx;have u:i<(l.map gU).length:=by rw[lM_];exact h1
 show((l.map gU).drop (0+i*1)).take 1= [gU x];rw[nA_,Nat.mul_one,zj_ u,List.getElem_map,d];rfl
def IZ (K:KP) (n:Nat) (R:Rn) (vs:List V):Prop:=∃v,vs= [.int .i64 (.ofNat n),v]/\bO K 1 RU (bC n R) v
theorem IZ.mono {K K':KP} {n:Nat} {R:Rn} {vs:List V} (h:IZ K n R vs) (hk:KP.le K K'):IZ K' n R vs:=let ⟨v,h1,d⟩:=h;⟨v,h1,d.mono hk fun _ _ h=>h⟩
theorem Bd {n i:Nat} {R:Rn} (hj:j<n):(bC n R).set i (bL n (R i) ||| 2 ^ j)=bC n fun a b=>R a b || (a == i && b == j):=by
 rw[km _ hj,lX];refine cF fun a b _ _=>?_
 by_cases e:a=i
 ·subst e;simp;rfl
 have:(a == i)=false:=by simp[e]
 simp[this]
inductive Tc (n:Nat) (R:Rn):Nat->Nat->Prop where
 | one {i j:Nat} (hi:i<n) (hj:j<n) (h:R i j=true):Tc n R i j
 | step {i j k:Nat} (h1:Tc n R i j) (h2:Tc n R j k):Tc n R i k
open Classical in
def lz (n:Nat) (R:Rn):Rn:=fun i j=>decide (Tc n R i j)
theorem pr {n:Nat} {R:Rn} {i:Nat}:lz n R i j=true↔Tc n R i j:=by unfold lz;simp
theorem Tc.lt {n:Nat} {R:Rn} {i:Nat} (h:Tc n R i j):i<n/\j<n:=by
 induction h with
 | one hi hj _=>exact⟨hi,hj⟩
 | step _ _ h1 d=>exact⟨h1.1,d.2⟩
def Kj (n:Nat) (R:Rn):Rn:=fun i k=>R i k || (List.range n).any fun j=>R i j && R j k
theorem NB {n:Nat} {R:Rn} {i k:Nat} (h:R i k=true):Kj n R i k=true:=by unfold Kj;simp[h]
structure KB (n:Nat) (R S:Rn):Prop where
 low:∀i j,i<n->j<n->R i j=true->S i j=true
 high:∀i j,i<n->j<n->S i j=true->Tc n R i j
theorem KB.refl (n:Nat) (R:Rn):KB n R R:=⟨fun _ _ _ _ h=>h,fun _ _ hi hj h=>.one hi hj h⟩
theorem KB.sq {n:Nat} {R S:Rn} (h:KB n R S):KB n R (Kj n S):=by
 refine⟨fun i j hi hj u=>NB (h.low i j hi hj u),fun i k hi hk d=>?_⟩;unfold Kj at d;simp only[Bool.or_eq_true,List.any_eq_true,List.mem_range,bA_] at d;rcases d with d | ⟨j,hj,h1,z⟩
 ·exact h.high i k hi hk d
 exact .step (h.high i j hi hj h1)<|h.high j k hj hk z
theorem KB.fix {n:Nat} {R S:Rn} (h:KB n R S) (he:bC n (Kj n S)=bC n S):bC n S=bC n (lz n R):=by
 refine cF fun i j hi hj=>?_
 have u:∀{i j},Tc n R i j->S i j=true:=by
  intro i j z;induction z with
  | one hi hj A=>exact h.low _ _ hi hj A
  | step d B h1 C=>
   rename_i i j k
   have:Kj n S i k=true:=by
    unfold Kj;simp only[Bool.or_eq_true,List.any_eq_true,List.mem_range,bA_];exact .inr ⟨j,d.lt.2,h1,C⟩
   rwa[oy he d.lt.1 B.lt.2] at this
 cases hb:lz n R i j with
 | true=>exact u (pr.1 hb)
 | false=>
  cases E:S i j with
  | false=>rfl
  | true=>rw[pr.2<|h.high i j hi hj E] at hb;cases hb
def Jk (n:Nat) (R:Rn):Nat:=((List.range n).map fun i=>((List.range n).filter<|R i).length).sum
theorem OO (n:Nat) (R:Rn):Jk n R<=n*n:=by
 unfold Jk
 have:∀l:List Nat,(l.map fun i=>((List.range n).filter<|R i).length).sum<=l.length*n:=by
  intro l;induction l with
  | nil=>simp
  | cons a l ih=>
   simp only[List.map_cons,List.sum_cons,zc_,Nat.succ_mul];have:=List.length_filter_le (R a) (List.range n);rw[List.length_range] at this;omega
 simpa using this (List.range n)
variable {parts:Array (Nat×Operand)} {kk:IntKind} {Rs:List Rn} {cs us:List V} {nn:Nat} {io xo:Operand}
section
variable {P:Program} {G:Cx} {ev:Operand->Option V} {O:aB}
theorem jX {t n m:Nat} {zero:List V} (d:P.underlying t=some (.array n e)) (hm:(P.info? e).map (·.size)=some m) (hz:(fJ P t).bind cG=some zero) (hf:jK (fun i=>some (i*m,m)) ev parts.toList zero=some cs):eo P G ev O (.build t parts)= .val (.agg cs) O:=by
 refine bU Z ?_;obtain⟨j,hj,rfl⟩:=oM_.1 hm;simp only[eh,d,hz,hj,hf,Option.map_some]
end
section
variable {P:Program} {G:Cx} {n i:Nat} {O:aB} {Q:Ex->PT V->aB->Prop} {ops:Array Oper} {t:PT V} {o:Oper} {K:KP}
theorem UA {l:List Oper} {p:V} {ty m j:Nat} {t':V->PT V} (d:fc K p vs) (hw:bR ops t o=some true) (z:o.op= .indexAddr ty xo io) (hx:bI G t xo=some p) (u:bI G t io=some (.int kk (.ofNat j))) (C:P.underlying ty=some (.array nn e)) (hj:(P.info? e).map (·.size)=some m) (hn:j<nn) (hl:j*m<=vs.length) (hp:∀p,dE t n o.dst p=some (t' p))
  (h:∀p',fc K p' (vs.drop (j*m))->bZ P G ops n l (t' p') O Q):bZ P G ops n (o::l) t O Q:=by
 obtain⟨b,off,cells,e,ro,rfl,E,h3,I⟩:=d;refine J hw ?_ (hp _)<|h _ ⟨b,off+j*m,cells,e,ro,Z,E,by rw[lD_];omega,?_⟩
 ·rw[z];exact eV C hj hx u hn
 rw[lD_]
 conv=>rhs;rw[<-I]
 rw[List.drop_take,zl_]
theorem rn {l:List (Nat×List Nat)} {p:V} {ty m j:Nat} {t':V->PT V} (d:fc K p vs) (u:ops[i]? =some o) (hw:bR ops t o=some true) (C:o.op= .indexAddr ty xo io) (hx:bI G t xo=some p) (z:bI G t io=some (.int kk (.ofNat j))) (E:P.underlying ty=some (.array nn e)) (hj:(P.info? e).map (·.size)=some m) (hn:j<nn) (hl:j*m<=vs.length) (hp:∀p,dE t n o.dst p=some (t' p))
  (h:∀p',fc K p' (vs.drop (j*m))->cR P G ops n l (t' p') O Q):cR P G ops n ((i,[])::l) t O Q:=by
 obtain⟨b,off,cells,e,ro,rfl,I,h3,L⟩:=d;refine ah u hw ?_ (hp _)<|h _ ⟨b,off+j*m,cells,e,ro,Z,I,by rw[lD_];omega,?_⟩
 ·rw[C];exact eV E hj hx z hn
 rw[lD_]
 conv=>rhs;rw[<-L]
 rw[List.drop_take,zl_]
end
def RP (p:Nat×Nat) (vs:List V):Prop:=vs= [.int .i64 (.ofNat p.1),.int .i64 (.ofNat p.2)]
theorem RP.leaf:∀x vs,RP x vs->cM vs=true:=fun _ _ h=>by cases h;rfl
def wB (l:List (Nat×Nat)):Rn:=fun a b=>l.any fun p=>p.1 == a && p.2 == b
theorem H5 {n k a b:Nat} {l:List (Nat×Nat)} (h:l[k]? =some (a,b)) (hb:b<n):(bC n<|wB<|l.take k).set a (bL n (wB (l.take k) a) ||| 2 ^ b)=bC n (wB<|l.take (k+1)):=by
 rw[Bd hb];refine cF fun x y _ _=>?_
 unfold wB;rw[zb_,h];simp only[List.any_append,Option.toList,List.any_cons,List.any_nil,Bool.or_false];have d:∀u v:Nat,(u == v)=(v == u):=fun u v=>by rw[zd_];simp only[beq_iff_eq];exact eq_comm
 rw[d x a,d y b]
def eM (n:Nat) (R:Rn) (i q:Nat):List (Nat×Nat):=((List.range i).flatMap fun a=>((List.range n).filter<|R a).map fun b=>(a,b))++((List.range q).filter<|R i).map fun b=>(i,b)
def jk (n:Nat) (R:Rn):List (Nat×Nat):=(List.range n).flatMap fun a=>((List.range n).filter<|R a).map fun b=>(a,b)
theorem jn {n i:Nat} {R:Rn} (h:R i q=true):eM n R i q++[(i,q)]=eM n R i (q+1):=by
 unfold eM;rw[List.range_succ,List.filter_append,List.map_append,lQ_];simp[h]
theorem kD {n i:Nat} {R:Rn} (h:R i q=false):eM n R i q=eM n R i (q+1):=by
 unfold eM;rw[List.range_succ,List.filter_append,List.map_append];simp[h]
theorem jm {n i:Nat} {R:Rn}:eM n R i n=eM n R (i+1) 0:=by
 unfold eM;rw[List.range_succ,List.flatMap_append];simp
theorem nm {n:Nat} {R:Rn}:eM n R n 0=jk n R:=by unfold eM jk;simp
theorem jl {n:Nat} {R:Rn}:∀{i q:Nat},(eM n R i q).length<=i*n+q:=by
 intro i q;unfold eM
 have h1:((List.range i).flatMap fun a=>((List.range n).filter<|R a).map fun b=>(a,b)).length<=i*n:=by
  induction i with
  | zero=>simp
  | succ i ih=>
   rw[List.range_succ,List.flatMap_append,lA_,Nat.succ_mul];have:=List.length_filter_le (R i) (List.range n);simp at this⊢;simp at ih;omega
 have h2:=List.length_filter_le (R i) (List.range q);rw[lA_,lM_];rw[List.length_range] at h2;omega
def jR (l:List Rn):Rn:=fun a b=>l.any fun R=>R a b
def Dr (S R:Rn) (i:Nat):Rn:=fun a b=>S a b || (decide (a<i) && R a b)
def BF (A B:Rn) (i:Nat):Rn:=fun a b=>decide (a<i) && (A a b && B a b)
def uG (A B:Rn):Rn:=fun a b=>A a b && B a b
def na (n:Nat) (A B:Rn):Rn:=fun a c=>(List.range n).any fun b=>A a b && B b c
def js (n:Nat) (A B:Rn) (i j:Nat):Rn:=fun a c=>(decide (a<i) && na n A B a c) || (decide (a=i) && (List.range j).any fun b=>A a b && B b c)
def jE (R:Rn) (i j:Nat):Rn:=fun a b=>(decide (b<i) || (decide (b=i) && decide (a<j))) && R b a
def mP (R:Rn):Rn:=fun a b=>R b a
section
variable {n i j k:Nat} {S R A B:Rn} {l:List Rn}
theorem H7:(bC n<|Dr S R i).set i (bL n (Dr S R i i) ||| bL n (R i))=bC n (Dr S R (i+1)):=by
 rw[pN,lX];refine cF fun a b _ _=>?_
 unfold Dr
 by_cases e:a=i
 ·subst e;simp
 have h1:(a == i)=false:=by simp[e]
 have d:decide (a<i+1)=decide (a<i):=by simp;omega
 simp[h1,d]
theorem EB:bC n (Dr S R 0)=bC n S:=cF fun a b _ _=>by unfold Dr;simp
theorem EA (h:l[k]? =some R):bC n (Dr (jR<|l.take k) R n)=bC n (jR<|l.take (k+1)):=by
 refine cF fun a b d _=>?_
 unfold Dr jR;rw[zb_,h];simp[List.any_append,d]
theorem H6:bC n (jR<|l.take 0)=bC n fun _ _=>false:=cF fun a b _ _=>by unfold jR;simp
theorem KI:(bC n<|BF A B i).set i (bL n (A i) &&& bL n (B i))=bC n (BF A B (i+1)):=by
 rw[Ae,lX];refine cF fun a b _ _=>?_
 unfold BF
 by_cases e:a=i
 ·subst e;simp
 have h1:(a == i)=false:=by simp[e]
 have d:decide (a<i+1)=decide (a<i):=by simp;omega
 simp[h1,d]
theorem I5:bC n (BF A B 0)=bC n fun _ _=>false:=cF fun a b _ _=>by unfold BF;simp
theorem I4:bC n (BF A B n)=bC n (uG A B):=cF fun a b d _=>by unfold BF uG;simp[d]
theorem Jn (h:A i j=true):(bC n<|js n A B i j).set i (bL n (js n A B i j i) ||| bL n (B j))=bC n (js n A B i (j+1)):=by
 rw[pN,lX];refine cF fun a c _ _=>?_
 unfold js
 by_cases e:a=i
 ·subst e;simp[List.range_succ,h]
 have h1:(a == i)=false:=by simp[e]
 simp[h1,e]
theorem Lf (h:A i j=false):bC n (js n A B i j)=bC n (js n A B i (j+1)):=by
 refine cF fun a c _ _=>?_
 unfold js
 by_cases e:a=i
 ·subst e;simp[List.range_succ,h]
 simp[e]
theorem Jm:bC n (js n A B i n)=bC n (js n A B (i+1) 0):=by
 refine cF fun a c _ _=>?_
 unfold js na
 by_cases e:a=i
 ·subst e;simp
 have d:decide (a<i+1)=decide (a<i):=by simp;omega
 simp[e,d]
theorem F2:bC n (js n A B 0 0)=bC n fun _ _=>false:=cF fun a c _ _=>by unfold js;simp
theorem F1:bC n (js n A B n 0)=bC n (na n A B):=cF fun a c d _=>by unfold js;simp[d]
theorem Kq (hi:i<n) (h:R i j=true):(bC n<|jE R i j).set j (bL n (jE R i j j) ||| 2 ^ i)=bC n (jE R i (j+1)):=by
 rw[Bd hi];refine cF fun a b _ _=>?_
 unfold jE
 by_cases e:a=j
 ·subst e
  by_cases f:b=i
  ·subst f;simp[h]
  have h1:(b == i)=false:=by simp[f]
  simp[h1,f]
 have h1:(a == j)=false:=by simp[e]
 have d:decide (a<j+1)=decide (a<j):=by simp;omega
 simp[h1,d]
theorem NR (h:R i j=false):bC n (jE R i j)=bC n (jE R i (j+1)):=by
 refine cF fun a b _ _=>?_
 unfold jE
 by_cases e:a=j
 ·subst e
  by_cases f:b=i
  ·subst f;simp[h]
  simp[f]
 have d:decide (a<j+1)=decide (a<j):=by simp;omega
 simp[d]
theorem Kp:bC n (jE R i n)=bC n (jE R (i+1) 0):=by
 refine cF fun a b d _=>?_
 unfold jE
 by_cases f:b=i
 ·subst f;simp[d]
 have u:decide (b<i+1)=decide (b<i):=by simp;omega
 simp[f,u]
theorem Hl:bC n (jE R 0 0)=bC n fun _ _=>false:=cF fun a b _ _=>by unfold jE;simp
theorem Hk:bC n (jE R n 0)=bC n (mP R):=cF fun a b _ hb=>by unfold jE mP;simp[hb]
theorem QZ:bC n (jR [S,na n S S])=bC n (Kj n S):=cF fun a b _ _=>by unfold jR Kj na;simp
theorem filter_lt {p q:Nat->Bool}:∀{l:List Nat},(∀x∈l,p x=true->q x=true)->(l.filter p).length<=(l.filter q).length/\((∃x∈l,p x=false/\q x=true)->(l.filter p).length<(l.filter q).length)
 | [],_=>⟨nR_ _,fun⟨x,hx,_⟩=>by cases hx⟩
 | y::l,h=>by
  obtain⟨h1,u⟩:=filter_lt (p:=p) (q:=q) (l:=l) fun x hx=>h x (mC_ _ hx)
  have h0:=h y (mS_ ..);cases hp:p y with
  | true=>
   have hq:=h0 hp;simp only[List.filter_cons,hp,hq,if_true,zc_];refine⟨by omega,fun⟨x,hx,d,hb⟩=>?_⟩;rcases mQ_.1 hx with rfl | hx
   ·rw[hp] at d;cases d
   have:=u ⟨x,hx,d,hb⟩;omega
  | false=>
   cases hq:q y with
   | true=>
    simp only[List.filter_cons,hp,hq,if_true,zc_,zi_,if_false];exact⟨by omega,fun _=>by omega⟩
   | false=>
    simp only[List.filter_cons,hp,hq,zi_,if_false];refine⟨h1,fun⟨x,hx,d,hb⟩=>?_⟩;rcases mQ_.1 hx with rfl | hx
    ·rw[hq] at hb;cases hb
    exact u ⟨x,hx,d,hb⟩
theorem NK {f g:Nat->Nat}:∀{l:List Nat},(∀x∈l,f x<=g x)->(l.map f).sum<=(l.map g).sum/\((∃x∈l,f x<g x)->(l.map f).sum<(l.map g).sum)
 | [],_=>⟨nR_ _,fun⟨x,hx,_⟩=>by cases hx⟩
 | y::l,h=>by
  obtain⟨h1,d⟩:=NK (f:=f) (g:=g) (l:=l) fun x hx=>h x (mC_ _ hx)
  have h0:=h y (mS_ ..);simp only[List.map_cons,List.sum_cons];refine⟨by omega,fun⟨x,hx,u⟩=>?_⟩;rcases mQ_.1 hx with rfl | hx
  ·omega
  have:=d ⟨x,hx,u⟩;omega
theorem OP (hle:∀a b,a<n->b<n->S a b=true->R a b=true) (hne:bC n S≠bC n R):Jk n S<Jk n R:=by
 unfold Jk;refine(NK fun a d=>(filter_lt fun b hb=>hle a b (List.mem_range.1 d) (List.mem_range.1 hb)).1).2 ?_
 by_cases hh:∃a b,a<n/\b<n/\S a b=false/\R a b=true
 ·obtain⟨a,b,d,hb,h1,z⟩:=hh;exact⟨a,List.mem_range.2 d,(filter_lt fun b hb=>hle a b d (List.mem_range.1 hb)).2 ⟨b,List.mem_range.2 hb,h1,z⟩⟩
 refine absurd (cF fun a b d hb=>?_) hne;cases u:S a b with
 | true=>exact(hle a b d hb u).symm
 | false=>
  cases C:R a b with
  | false=>rfl
  | true=>exact absurd ⟨a,b,d,hb,u,C⟩ hh
end
theorem rB {K:KP} {n m b:Nat} {ro:Bool} (h:K b (.row (us.flatMap fun u=>[.int .i64 (.ofNat n),u]) e ro)) (hm:Rs.length=m) (hl:Rs.length=us.length) (hle:m<=1000000) (z:∀(i:Nat) (R:Rn),Rs[i]? =some R->∃u,us[i]? =some u/\bO K 1 RU (bC n R) u):bO K 2 (IZ K n) Rs (.slice b 0 m (.known m)):=by
 subst hm
 have hlen:∀us:List V,(us.flatMap fun u=>[V.int .i64 (.ofNat n),u]).length=us.length*2:=by
  intro us;induction us with
  | nil=>rfl
  | cons u us ih=>rw[List.flatMap_cons,lA_,ih,zc_];simp;omega
 have d:∀(us:List V) (i:Nat) (u:V),us[i]? =some u->((us.flatMap fun u=>[V.int .i64 (.ofNat n),u]).drop (i*2)).take 2= [.int .i64 (.ofNat n),u]:=by
  intro us;induction us with
  | nil=>intro i u h;simp at h
  | cons v us ih=>
   intro i u h;cases i with
   | zero=>simp at h;subst h;rfl
   | succ i=>
    rw[List.getElem?_cons_succ] at h;rw[<-ih i u h,List.flatMap_cons,Nat.succ_mul];rfl
 refine .inr ⟨b,0,_,_,e,ro,Z,.inr ⟨_,Z,nR_ _⟩,h,by rw[hlen];omega,by omega,fun i R hx=>?_⟩;obtain⟨u,hu,C⟩:=z i R hx;rw[nA_];exact⟨u,d us i u hu,C⟩
theorem It {K:KP} {n b:Nat} {ro:Bool} {R:Rn} (h:K b (.row [.int .i64 (.ofNat n),u] e ro)) (d:bO K 1 RU (bC n R) u):bO K 2 (IZ K n) [R] (.slice b 0 1 (.known 1)):=
 rB (us:=[u]) h Z Z (by decide) fun i R' hi=>by
  match i,hi with
  | 0,hi=>cases hi;exact⟨_,Z,d⟩
theorem pd {K:KP} {n b:Nat} {ro:Bool} {R S:Rn} {v:V} (h:K b (.row [.int .i64 (.ofNat n),u,.int .i64 (.ofNat n),v] e ro)) (d:bO K 1 RU (bC n R) u) (z:bO K 1 RU (bC n S) v):bO K 2 (IZ K n) [R,S] (.slice b 0 2 (.known 2)):=
 rB (us:=[u,v]) h Z Z (by decide) fun i R' hi=>by
  match i,hi with
  | 0,hi=>cases hi;exact⟨_,Z,d⟩
  | 1,hi=>cases hi;exact⟨_,Z,z⟩
theorem Bb {K:KP} {n b:Nat} {ro:Bool} {R S T:Rn} {v w:V} (h:K b (.row [.int .i64 (.ofNat n),u,.int .i64 (.ofNat n),v,.int .i64 (.ofNat n),w] e ro)) (d:bO K 1 RU (bC n R) u) (z:bO K 1 RU (bC n S) v) (hT:bO K 1 RU (bC n T) w):bO K 2 (IZ K n) [R,S,T] (.slice b 0 3 (.known 3)):=
 rB (us:=[u,v,w]) h Z Z (by decide) fun i R' hi=>by
  match i,hi with
  | 0,hi=>cases hi;exact⟨_,Z,d⟩
  | 1,hi=>cases hi;exact⟨_,Z,z⟩
  | 2,hi=>cases hi;exact⟨_,Z,hT⟩
theorem ES {K:KP} {n b:Nat} {ro:Bool} {R S T U_:Rn} {v w x:V} (h:K b (.row [.int .i64 (.ofNat n),u,.int .i64 (.ofNat n),v,.int .i64 (.ofNat n),w,.int .i64 (.ofNat n),x] e ro)) (d:bO K 1 RU (bC n R) u) (z:bO K 1 RU (bC n S) v) (hT:bO K 1 RU (bC n T) w) (C:bO K 1 RU (bC n U_) x):bO K 2 (IZ K n) [R,S,T,U_] (.slice b 0 4 (.known 4)):=
 rB (us:=[u,v,w,x]) h Z Z (by decide) fun i R' hi=>by
  match i,hi with
  | 0,hi=>cases hi;exact⟨_,Z,d⟩
  | 1,hi=>cases hi;exact⟨_,Z,z⟩
  | 2,hi=>cases hi;exact⟨_,Z,hT⟩
  | 3,hi=>cases hi;exact⟨_,Z,C⟩
def jF (R:Rn):Nat->Rn
 | 0=>R
 | k+1=>fun i j=>jF R k i j || (jF R k i k && jF R k k j)
section
variable {n:Nat} {R:Rn}
theorem Ss {k i:Nat} (h:R i j=true):jF R k i j=true:=by
 induction k with
 | zero=>exact h
 | succ k ih=>show(jF R k i j || _)=true;rw[ih];rfl
theorem Fv {k i:Nat}:jF R (k+1) i j=true↔jF R k i j=true∨(jF R k i k=true/\jF R k k j=true):=by
 show(jF R k i j || (jF R k i k && jF R k k j))=true↔_;rw[Bool.or_eq_true,bA_]
theorem Dg:∀{k i j:Nat},k<=n->i<n->j<n->jF R k i j=true->Tc n R i j
 | 0,_,_,_,hi,hj,h=>.one hi hj h
 | k+1,i,j,hk,hi,hj,h=>by
  rcases Fv.1 h with h | ⟨h1,d⟩
  ·exact Dg oM hi hj h
  exact .step (Dg oM hi oM h1)<|Dg oM oM hj d
theorem uC:∀{k m i j:Nat},m<k->jF R k i m=true->jF R k m j=true->jF R k i j=true
 | 0,m,_,_,hm,_,_=>absurd hm (nZ_ _)
 | k+1,m,i,j,hm,h1,d=>by
  rw[Fv] at h1 d⊢
  by_cases e:m=k
  ·subst e;refine .inr ⟨?_,?_⟩
   ·rcases h1 with h | ⟨h,_⟩<;>exact h
   rcases d with h | ⟨_,h⟩<;>exact h
  have u:m<k:=by omega
  rcases h1 with h1 | ⟨h1,A⟩<;>rcases d with d | ⟨d,z⟩
  ·exact .inl<|uC u h1 d
  ·exact .inr ⟨uC u h1 d,z⟩
  ·exact .inr ⟨h1,uC u A d⟩
  exact .inr ⟨h1,z⟩
theorem Qr {i:Nat} (hi:i<n) (hj:j<n):jF R n i j=lz n R i j:=by
 rw[zd_,pr];refine⟨fun h=>Dg (nR_ _) hi hj h,fun h=>?_⟩;clear hi hj;induction h with
 | one hi hj h=>exact Ss h
 | step h1 h2 d u=>exact uC h1.lt.2 d u
theorem NX:bC n (jF R n)=bC n (lz n R):=cF fun i j hi hj=>Qr hi hj
def ig (R:Rn) (k i:Nat):Rn:=fun a b=>bif decide (a<i) then jF R (k+1) a b else jF R k a b
theorem Kz {k:Nat}:ig R k 0=jF R k:=by
 funext a b;unfold ig;rw[decide_eq_false<|nZ_ _];rfl
theorem NW {k:Nat}:bC n (ig R k n)=bC n (jF R (k+1)):=cF fun i j hi _=>by
 unfold ig;rw[decide_eq_true hi];rfl
theorem NY {k b:Nat}:jF R (k+1) k b=jF R k k b:=by
 show(jF R k k b || (jF R k k k && jF R k k b))=_;cases jF R k k b<;>simp
theorem Qq {k i b:Nat}:ig R k i k b=jF R k k b:=by
 unfold ig;cases decide (k<i) with
 | true=>exact NY
 | false=>rfl
theorem Bt {k i a b:Nat}:ig R k (i+1) a b=bif decide (a=i) then(ig R k i i b || (ig R k i i k && ig R k i k b)) else ig R k i a b:=by
 by_cases e:a=i
 ·subst e;rw[decide_eq_true Z,Qq];unfold ig;rw[decide_eq_true<|Nat.lt_succ_self a,decide_eq_false<|Nat.lt_irrefl a];rfl
 rw[decide_eq_false e];unfold ig
 by_cases h:a<i
 ·rw[decide_eq_true h,decide_eq_true oM];rfl
 rw[decide_eq_false h,decide_eq_false oM];rfl
end
variable {P:Program}
theorem Sr {k:Bool} {ty:TypeId} {n:Nat} (h:n<64):pH P k .sub ty (.int .u64 (.ofNat (2 ^ n))) (.int .u64 1)=some (.int .u64 (.ofNat (2 ^ n-1))):=by
 have h1:1<=2 ^ n:=Nat.one_le_two_pow;have h2:(2:Nat) ^ n<2 ^ 64:=Nat.pow_lt_pow_right oM h
 have:wr .u64 (Int.sub (.ofNat (2 ^ n)) 1)= .ofNat (2 ^ n-1):=by
  have e:Int.sub (.ofNat (2 ^ n)) 1= .ofNat (2 ^ n-1):=by
   show((2 ^ n:Nat):Int)-1=((2 ^ n-1:Nat):Int);omega
  rw[e];exact Us oM
 cases k<;>exact congrArg (fun z=>some (V.int .u64 z)) this
theorem Um {k:Bool} {ty:TypeId} {n x:Nat} (h:n<64) (hx:x<2 ^ n):pH P k .andNot ty (.int .u64 (.ofNat x)) (.int .u64 (.ofNat (2 ^ n-1)))=some (.int .u64 (.ofNat 0)):=by
 have h2:(2:Nat) ^ n<2 ^ 64:=Nat.pow_lt_pow_right oM h
 have e:(BitVec.ofInt 64 (.ofNat x) &&& ~~~(BitVec.ofInt 64 (.ofNat (2 ^ n-1))))=0#64:=by
  refine BitVec.eq_of_getLsbD_eq fun i hi=>?_
  rw[BitVec.getLsbD_and,BitVec.getLsbD_not,show BitVec.ofInt 64 (.ofNat x)=BitVec.ofNat 64 x from BitVec.ofInt_natCast ..,show BitVec.ofInt 64 (.ofNat (2 ^ n-1))=BitVec.ofNat 64 (2 ^ n-1) from BitVec.ofInt_natCast ..,BitVec.getLsbD_ofNat,BitVec.getLsbD_ofNat,Nat.testBit_two_pow_sub_one]
  by_cases d:i<n
  ·simp[hi,d]
  have:x.testBit i=false:=Nat.testBit_lt_two_pow (zh_ hx<|Nat.pow_le_pow_right oM oM);simp[hi,this]
 have:IntKind.u64.wrap (((BitVec.ofInt 64 (.ofNat x) &&& ~~~(BitVec.ofInt 64 (.ofNat (2 ^ n-1)))).toNat:Nat):Int)= .ofNat 0:=by
  rw[e];rfl
 cases k<;>exact congrArg (fun z=>some (V.int .u64 z)) this
theorem RZ (d:Plain G) {n:Nat} (hn:n<64) (ar:H O K L):
  Ca G K L 238 [nI n] O <| .int .u64 (.ofNat (2 ^ n-1)):=by
 refine V9 d Tryz.func238 Z (Vw 8 Z (J Z (fE (j:=n) oM U U U Z) Z (J Z (ay (v:=.int .u64 (.ofNat (2 ^ n))) Z Z<|wo hn) Z (J Z (ay (v:=.int .u64 (.ofNat (2 ^ n-1))) Z Z<|Sr hn) Z<|VA 4 Z ?_))));exact aA Z Z ⟨Z,ar⟩
theorem H9 (I:Plain G) {n:Nat} (hn:n<64) {R:Rn} {v:V} (h:bO K 1 RU (bC n R) v) (ar:H O K L):
  Ca G K L 193 [.agg [nI n,v]] O <| .int .i64 0:=by
 have hlen:=bQ n R;refine V9 I Tryz.func193 Z<|Vw 2 Z<|kb ar (cH Z Z) (fun O b1 ar=>?_);refine TF ar 9 [0,0] Z Z<|ky Z (an Z) (fun M=>?_) (fun M=>?_)
 ·exact Bool.noConfusion (show false=true from M)
 refine Wk ar 4 [0,0] Z Z<|ky Z (an Z) (fun u=>?_) (fun u=>?_)
 ·exact absurd (aM (a:=64) (b:=n) u) oM
 refine Wk ar 2 [1,0] Z Z<|J Z (W5 h Z Z Z (e:=144) Z) Z<|VF ar 6 [0,0] Z Z<|aG Z (fun z=>?_) (fun z=>?_)
 ·exact absurd z (by rw[hlen,fR];decide)
 refine UF 3 Z<|VE ar 4 [1,0] Z Z<|J Z (W5 h Z Z Z (e:=144) Z) Z<|UI 4 Z ?_;obtain⟨LL1,ar,hLL1⟩:=ar.named;refine bk ([2,4]++rg 24 11) (fun j t O=>∃(i:Nat),j+i=(bC n R).length/\t.get 24=some (nI i)/\H O K LL1) ((bC n R).length) ⟨0,Z,Z,ar⟩ ?_;clear ar;intro N t O ak Q;obtain⟨i,ac,A,ar⟩:=Q;subst hLL1;obtain⟨oo,rfl⟩:=ak.q1 A Z;refine Vv 6 Z<|aG Z (fun d=>?_) (fun d=>?_)
 ·refine SF 6 Z ?_;have E:i<n:=by have:=aM d;omega
  refine WV (e:=144) (m:=1) h (du E) Z Z Z Z (fun am aa B ab C=>?_);obtain rfl:=C;refine J Z (W7 ar B Z Z) Z<|UQ ar 8 [0,0] Z Z<|kx (W2 Z Z Z) (RZ I hn ar) (fun O ar=>?_);refine J Z (ay (v:=.int .u64 (.ofNat 0)) Z Z<|Um hn<|DF _ _) Z<|J Z (ay (v:=.bool false) Z Z (Z)) Z<|UL 5 Z<|Wd 4 Z ?_;have hlp:=aM d;refine aD ⟨N-1,by omega,oF,i+1,by omega,cI<|aX oM,ar⟩
 refine UH 3 Z<|aN<|Wf 6 Z ?_;exact aA Z Z ⟨Z,ar.pop⟩
theorem GN (A:Plain G) {n:Nat} (hn:n<64) (ar:H O K L):
  EC G 226 [nI n] O fun u O'=>∃b,u= .agg [nI n,.slice b 0 n (.known n)]/\H O' K ((b,.row ((bC n fun _ _=>false).map gU) 144 false)::L):=by
 refine V9 A Tryz.func226 Z<|Vw 2 Z<|kb ar (W6 (cs:=[D,.av])) (fun O b1 ar=>?_);refine TE 7 Z<|ky Z (an Z) (fun h5=>?_) (fun h5=>?_)
 ·exact Bool.noConfusion (show false=true from h5)
 refine Vy 5 Z<|aG Z (fun d=>?_) (fun d=>?_)
 ·exact absurd (aM (a:=64) (b:=n) d) oM
 refine UG 6 Z<|fh ar Z (ie (e:=144) (w:=8) (z:=[gU 0]) U U U U Z Z oM oM) (fun _=>Z) (fun O B ar=>?_);rw[kG (f:=gU)] at ar;refine J Z (W1 (places:=[(0,1),(1,1)]) (zero:=[D,.av]) (cs:=[_,_]) Z) Z<|gw ar Z (W9 Z Z Z ar.g1 Z) Z (fun O ar=>?_);refine VA 3 Z ?_;rw[s9] at ar;exact dh Z Z ar.g1 (m:=2) U Z ⟨B,Z,ar.sub (.cons_cons _ (.cons _ (.refl _)))⟩
theorem Pr (S:Plain G) {n:Nat} (hn:n<64) {l:List Rn} {v:V} (d:bO K 2 (IZ K n) l v) (hp:0<l.length) (ar:H O K L):
  Ca G K L 225 [v] O <| .bool true:=by
 obtain⟨x0,h0x⟩:=dc hp;refine V9 S Tryz.func225 Z<|UE 9 Z<|J Z (W5 d Z Z Z (e:=167) Z) Z<|UI 4 Z ?_;obtain⟨LL1,ar,hLL1⟩:=ar.named;refine bk ([2,4]++rg 7 17) (fun j t O=>∃(i:Nat),j+i=l.length/\t.get 7=some (nI i)/\H O K LL1) (l.length) ⟨0,Z,Z,ar⟩ ?_;clear ar;intro T t O ak W;obtain⟨i,am,I,ar⟩:=W;subst hLL1;obtain⟨oo,rfl⟩:=ak.q1 I Z;refine Vv 6 Z<|aG Z (fun M=>?_) (fun M=>?_)
 ·refine SF 6 Z ?_;obtain⟨x9,N,ao⟩:=di M;refine WV (e:=167) (m:=2) d N Z Z Z Z (fun p9 ap Q aE R=>?_);have hr9':=R;obtain⟨v9,rfl,u⟩:=hr9';refine J Z (W8 ar Q Z Z) Z<|kb ar (W6 (cs:=[D,.av])) (fun O b1 ar=>?_);refine ks ar (Sx Z Z Z ar.g0 (m:=2) Z (aj Z<|aj u.leaf.2 aC) (cells':=[_,_]) Z) (fun O ar=>?_);refine UJ 3 Z<|aL (l:=zp [0,1,2,3,4,5,6,7,8,9,10,11]) U U<|ah Z Z (Xc Z ar.g0 Z) Z<|eL Z Z (W2 Z Z Z) (fun _=>Z) (H9 S hn u ar) (fun O ar=>?_);refine⟨aT,?_⟩;refine wQ 1 Z<|e8 Z Z (an Z) (fun _=>Z) (fun z=>?_) (fun z=>?_)
  ·exact absurd z (by decide)
  refine Wl ar 3 [0,0] Z Z<|WW (e:=167) (m:=2) d h0x Z Z Z Z Z (fun a0 aa A ab B=>?_);have hr18':=B;obtain⟨a1,rfl,ac⟩:=hr18';refine dN A Z Z Z Z (k:=0) U (lb Z) (fun _=>Z) (fun a2 C=>?_);refine ah Z Z (W7 ar C Z Z) Z<|VB 4 Z<|aG Z (fun E=>?_) (fun E=>?_)
  ·exact absurd E (by rw[fR];decide)
  refine aI<|az<|Wd 4 Z ?_;have ar:=ar.pop;have hlp:=aM M;refine aD ⟨T-1,by omega,oF,i+1,by omega,cI<|aX (by have:=d.cS;omega),ar⟩
 refine UH 3 Z<|aN<|Vw 3 Z<|J Z (W5 d Z Z Z (e:=167) Z) Z<|VA 5 Z ?_;exact aA Z Z ⟨cB (show Nat.ble 1 l.length=true by rw[nE_];exact hp),ar⟩
theorem Pp (hG:Plain G) {n:Nat} (hn:n<64) {l:List Rn} {v:V} (I:bO K 2 (IZ K n) l v) (hp:0<l.length) (ar:H O K L):
  EC G 189 [v] O fun u O'=>∃b,u= .agg [nI n,.slice b 0 n (.known n)]/\H O' K ((b,.row ((bC n<|jR l).map gU) 144 false)::L):=by
 obtain⟨x0,h0x⟩:=dc hp;refine V9 hG Tryz.func189 Z<|Vw 2 Z<|kb ar (W6 (cs:=[D,.av])) (fun O b1 ar=>?_);refine TE 6 Z<|kx (W2 Z Z Z) (Pr hG hn I hp ar) (fun O ar=>?_);refine J Z (dW Z) Z<|Vy 3 Z<|UG 5 Z<|WV (e:=167) (m:=2) I h0x Z Z Z Z (fun ba aE M a0 N=>?_);have hr13':=N;obtain⟨bb,rfl,a1⟩:=hr13';refine de M Z Z Z (k:=0) U (lb Z) (fun _=>Z) (fun bc Q=>?_);refine J Z (W7 ar Q Z Z) Z<|kw (W2 Z Z Z) (GN hG hn ar) ?_;rintro _ O ⟨S,rfl,ar⟩;refine kb ar (W6 (cs:=[D,.av])) (fun O b3 ar=>?_);refine ks ar (W9 Z Z Z ar.g0 Z) (fun O ar=>?_);refine TE 6 Z<|J Z (W5 I Z Z Z (e:=167) Z) Z ?_;rw[<-H6 (l:=l)] at ar;refine UI 4 Z (bk ([5,6,7]++rg 19 22) (fun j t O=>∃(k:Nat),j+k=l.length/\t.get 19=some (nI k)/\H O K ((b3,.row [nI n,.slice S 0 n (.known n)] 167 false)::(S,.row ((bC n<|jR<|l.take k).map gU) 144 false)::(b1,.row [D,.av] 167 false)::L)) (l.length) ⟨0,Z,Z,ar⟩ ?_);clear ar;intro j5 t O ak hI;obtain⟨k,bd,T,ar⟩:=hI;obtain⟨oo,rfl⟩:=ak.q1 T Z;refine Vv 6 Z<|aG Z (fun B=>?_) (fun B=>?_)
 ·refine SF 6 Z ?_;obtain⟨d,E,a2⟩:=di B;refine WV (e:=167) (m:=2) I E Z Z Z Z (fun be a3 W a4 X=>?_);have hr21':=X;obtain⟨am,rfl,z⟩:=hr21';refine J Z (W8 ar W Z Z) Z<|kb ar (W6 (cs:=[D,.av])) (fun O b4 ar=>?_);refine ks ar (Sx Z Z Z ar.g0 (m:=2) Z (aj Z<|aj z.leaf.2 aC) (cells':=[_,_]) Z) (fun O ar=>?_);refine UQ ar 6 [1,0] Z Z<|J Z (W5 z Z Z Z (e:=144) Z) Z ?_;have hR:=E;rw[<-EB (R:=d)] at ar;refine UI 4 Z (bk ([6,7]++rg 26 14) (fun j t O=>∃(i:Nat),j+i=(bC n d).length/\t.get 26=some (nI i)/\H O K ((b4,.row [nI n,am] 167 false)::(b3,.row [nI n,.slice S 0 n (.known n)] 167 false)::(S,.row ((bC n<|Dr (jR<|l.take k) d i).map gU) 144 false)::(b1,.row [D,.av] 167 false)::L)) ((bC n d).length) ⟨0,Z,Z,ar⟩ ?_);clear ar;intro j8 t O ak hI;obtain⟨i,bf,aa,ar⟩:=hI;obtain⟨oo,rfl⟩:=ak.q1 aa Z;refine Vv 6 Z<|aG Z (fun C=>?_) (fun C=>?_)
  ·refine SF 7 Z ?_;have A:i<n:=by have:=aM C;rw[bQ] at this;exact this
   refine WV (e:=144) (m:=1) z (du A) Z Z Z Z (fun bg a5 ab a9 ac=>?_);obtain rfl:=ac;refine J Z (W7 ar ab Z Z) Z (Vz 5 Z (Wk ar 3 [1,1] Z Z (J Z (eH (e:=144) (m:=1) U U Z Z A) Z (J Z (aw Z (ar.get 2 Z) U<|iX (du A) (by first | omega | rfl)) Z (vQ 1 Z (J Z (ay (v:=.int .u64 (.ofNat<|bL n ((Dr (jR<|l.take k) d i) i) ||| bL n (d i))) Z Z<|wD (cX oM _)<|cX oM _) Z<|J Z (eH (e:=144) (m:=1) U U Z Z A) Z ?_))))));refine iM ar (.there (.there .here)) Z (aO Z Z Z (ar.get 2 Z) (m:=1) U Z (by rw[lM_];rw[bQ];omega) Z (cells':=((bC n ((Dr (jR<|l.take k) d i))).set i<|bL n ((Dr (jR<|l.take k) d i) i) ||| bL n (d i)).map (gU)) (eZ (f:=gU) (v:=(bL n ((Dr (jR<|l.take k) d i) i) ||| bL n (d i))) (by rw[bQ];exact A) (by first | omega | rfl))) Z (fun O ar=>?_);rw[H7] at ar;refine af<|az<|Wd 4 Z ?_;have hlp:=aM C;refine aD ⟨j8-1,by omega,oF,i+1,by omega,cI<|aX oM,ar⟩
  refine UH 3 Z<|aN<|az<|Wd 4 Z ?_;have ar:=ar.pop;have hlp:=aM B;have ao:i=n:=by have:=bK C;rw[bQ] at*;omega
  subst ao;rw[EA hR] at ar;refine aD ⟨j5-1,by omega,oF,k+1,by omega,cI<|aX (by have:=I.cS;omega),ar⟩
 refine UH 3 Z<|aN<|Vw 2 Z<|J Z (Xc Z ar.g0 Z) Z<|lg ar Z (W9 Z Z Z (ar.get 2 Z) Z) Z (fun O ar=>?_);refine VA 3 Z ?_;have ap:l.take k=l:=tL_ (bK B);rw[ap] at ar;exact dh Z Z (ar.get 2 Z) (m:=2) U Z ⟨S,Z,ar.sub (.cons _ (.cons_cons _ (.cons _ (.refl _))))⟩
variable {id:bS}
def jh:List (List cm)->Nat->List bS
 | [],_=>[]
 | r::l,t=>(List.range r.length).map (fun i=>(⟨.ofNat (t+1),.ofNat i⟩:bS))++jh l (t+1)
def gu (g:XG):List bS:=(List.range g.init.length).map (fun i=>(⟨0,.ofNat i⟩:bS))++jh g.threads 0
def eT (g:XG) (i:Nat):bS:=((gu g)[i]?).getD ⟨0,0⟩
def eu (g:XG) (i:Nat):cm:=nf (dV g<|eT g i)
def zR (g:XG):List cm:=(gu g).map fun id=>nf (dV g id)
def nV (g:XG):Nat:=(gu g).length
theorem AM:∀{l:List (List cm)} {t s:Nat} {row:List cm},l[t]? =some row->jh (l.take (t+1)) s=jh (l.take t) s++(List.range row.length).map fun i=>(⟨.ofNat (s+t+1),.ofNat i⟩:bS)
 | [],_,_,_,h=>by simp at h
 | r::l,0,s,row,h=>by
  simp only[zm_,oJ_] at h;subst h;simp[jh]
 | r::l,t+1,s,row,h=>by
  have:=AM (l:=l) (t:=t) (s:=s+1) (by simpa using h);rw[List.take_succ_cons,List.take_succ_cons];show _++jh (l.take (t+1)) (s+1)=(_++jh (l.take t) (s+1))++_;rw[this,lQ_,show s+1+t+1=s+(t+1)+1 by omega]
def iH (g:XG) (i t k:Nat):List bS:=(List.range i).map (fun i=>(⟨0,.ofNat i⟩:bS))++(jh (g.threads.take t) 0++(List.range k).map fun i=>(⟨.ofNat (t+1),.ofNat i⟩:bS))
theorem Ch {g:XG} {i:Nat}:iH g i 0 0++[⟨0,.ofNat i⟩]=iH g (i+1) 0 0:=by unfold iH;simp[jh,List.range_succ]
theorem yl {g:XG} {i t k:Nat}:iH g i t k++[⟨.ofNat (t+1),.ofNat k⟩]=iH g i t (k+1):=by unfold iH;simp[List.range_succ,lQ_]
theorem Gq {g:XG} {i t:Nat} {row:List cm} (h:g.threads[t]? =some row):iH g i t row.length=iH g i (t+1) 0:=by
 unfold iH;rw[AM h,nA_];simp
theorem yj {g:XG} {t:Nat} (h:g.threads.length<=t):iH g g.init.length t 0=gu g:=by
 unfold iH gu;rw[tL_ h];simp
section
variable {g:XG}
theorem Ly:(zR g).length=nV g:=lM_ ..
theorem eE {i:Nat} (h:i<nV g):(gu g)[i]? =some (eT g i):=by unfold eT;rw[gC h];rfl
theorem eQ {i:Nat} (h:i<nV g):(zR g)[i]? =some (eu g i):=by unfold zR eu;rw[gM_,eE h];rfl
theorem wO:∀{l:List (List cm)} {t n:Nat} {id:bS},(jh l t)[n]? =some id->∃(s k:Nat) (row:List cm) (e:cm),l[s]? =some row/\row[k]? =some e/\id=⟨.ofNat (t+s+1),.ofNat k⟩
 | [],_,_,_,h=>by simp[jh] at h
 | r::l,t,n,id,h=>by
  unfold jh at h
  by_cases hn:n<r.length
  ·rw[gL_ (by simpa using hn),gM_,zr_ hn] at h;simp only[Option.map_some,oJ_] at h;exact⟨0,n,r,r[n],Z,gC hn,h.symm⟩
  rw[gR_ (by simpa using Nat.le_of_not_lt hn)] at h;obtain⟨s,k,row,e,h1,d,u⟩:=wO h;exact⟨s+1,k,row,e,by simpa using h1,d,by rw[u,show t+1+s+1=t+(s+1)+1 by omega]⟩
theorem Eh:∀{l:List (List cm)} {t s k:Nat} {row:List cm} {e:cm},l[s]? =some row->row[k]? =some e->(⟨.ofNat (t+s+1),.ofNat k⟩:bS)∈jh l t
 | [],_,_,_,_,_,h,_=>by simp at h
 | r::l,t,0,k,row,e,h,d=>by
  simp only[zm_,oJ_] at h;subst h;unfold jh;exact List.mem_append_left _<|zn_.2 ⟨k,List.mem_range.2 (gA.1 d).1,Z⟩
 | r::l,t,s+1,k,row,e,h,d=>by
  unfold jh;have:=Eh (t:=t+1) (by simpa using h) d;rw[show t+1+s+1=t+(s+1)+1 by omega] at this;exact List.mem_append_right _ this
theorem gh {i:Nat} (h:i<nV g):(∃(x:Nat) (v:Int),eT g i=⟨0,.ofNat x⟩/\g.init[x]? =some v/\eu g i=⟨2,.ofNat x,1,0,v⟩)∨(∃(t k:Nat) (row:List cm) (e:cm),eT g i=⟨.ofNat (t+1),.ofNat k⟩/\g.threads[t]? =some row/\row[k]? =some e/\eu g i=e):=by
 have ha:=eE h;unfold gu at ha
 by_cases hn:i<g.init.length
 ·rw[gL_ (by simpa using hn),gM_,zr_ hn] at ha;simp only[Option.map_some,oJ_] at ha;refine .inl ⟨i,g.init[i],ha.symm,gC hn,?_⟩;unfold eu;rw[<-ha];show nf ((g.init[i]?).map fun v=>(⟨2,i,1,0,v⟩:cm))=_;rw[gC hn];rfl
 rw[gR_ (by simpa using Nat.le_of_not_lt hn)] at ha;obtain⟨s,k,row,e,h1,u,d⟩:=wO ha;rw[nA_] at d;refine .inr ⟨s,k,row,e,d,h1,u,?_⟩;unfold eu;rw[d,jJ,h1];show nf (row[k]?)=e;rw[u];rfl
theorem Ci {e:cm} (h:dV g id=some e) (hw:0<=id.index):id∈gu g:=by
 obtain⟨th,ix⟩:=id;obtain⟨k,rfl⟩:∃k:Nat,ix= .ofNat k:=⟨ix.toNat,(Int.toNat_of_nonneg hw).symm⟩;unfold gu
 match th with
 | .ofNat 0=>
  have h:(g.init[k]?).map (fun v=>(⟨2,k,1,0,v⟩:cm))=some e:=h;obtain⟨v,hv,_⟩:=oM_.1 h;exact List.mem_append_left _<|zn_.2 ⟨k,List.mem_range.2 (gA.1 hv).1,Z⟩
 | .ofNat (t+1)=>
  rw[show(⟨.ofNat (t+1),.ofNat k⟩:bS)=⟨.ofNat (t+1),.ofNat k⟩ from Z,jJ] at h;obtain⟨row,h1,d⟩:=Option.bind_eq_some_iff.1 h;have:=Eh (t:=0) h1 d;rw[nA_] at this;exact List.mem_append_right _ this
 | .negSucc t=>simp[dV] at h
theorem yr:∀{l:List (List cm)} {t:Nat},(∀r∈l,r.length<=14)->(jh l t).length<=14*l.length
 | [],_,_=>nR_ _
 | r::l,t,h=>by
  unfold jh;have h1:=yr (l:=l) (t:=t+1) fun r d=>h r (mC_ _ d)
  have h2:=h r (mS_ ..);rw[lA_,lM_,List.length_range,zc_];omega
theorem tL (h:dC g) {i t k:Nat} (hi:i<=6) (hk:k<=14) (ht:t<=4):(iH g i t k).length<=100:=by
 unfold iH
 have h1:=yr (l:=g.threads.take t) (t:=0) fun r d=>by
  obtain⟨i,hi⟩:=gO_ (List.mem_of_mem_take d);exact h.short i r hi
 have h2:(g.threads.take t).length<=t:=List.length_take_le ..;simp only[lA_,lM_,List.length_range];omega
theorem jQ (h:dC g):nV g<=62:=by
 unfold nV gu;rw[lA_,lM_,List.length_range]
 have h1:=yr (l:=g.threads) (t:=0) fun r d=>by
  obtain⟨i,hi⟩:=gO_ d;exact h.short i r hi
 have:=h.threads;have:=h.init;omega
theorem HZ:∀{l:List (List cm)} {t:Nat},(jh l t).Pairwise (·≠·)
 | [],_=>.nil
 | r::l,t=>by
  unfold jh;refine List.pairwise_append.2 ⟨?_,HZ,fun a d b hb=>?_⟩
  ·refine List.pairwise_map.2 ((List.pairwise_lt_range (n:=r.length)).imp fun {a b} aa he=>?_);have:=iJ_ (congrArg bS.index he);omega
  obtain⟨k,_,rfl⟩:=zn_.1 d;obtain⟨q,hq⟩:=gO_ hb;obtain⟨s,k',_,_,_,_,rfl⟩:=wO hq;intro he;have:=iJ_ (congrArg bS.bH he);omega
theorem LX:(gu g).Pairwise (·≠·):=by
 unfold gu;refine List.pairwise_append.2 ⟨?_,HZ,fun a d b hb=>?_⟩
 ·refine List.pairwise_map.2 ((List.pairwise_lt_range (n:=g.init.length)).imp fun {a b} aa he=>?_);have:=iJ_ (congrArg bS.index he);omega
 obtain⟨k,_,rfl⟩:=zn_.1 d;obtain⟨q,hq⟩:=gO_ hb;obtain⟨s,k',_,_,_,_,rfl⟩:=wO hq;intro he;have h1:(0:Int)=((0+s+1:Nat):Int):=congrArg bS.bH he;omega
theorem tM {i:Nat} (hi:(gu g)[i]? =some id) (hj:(gu g)[j]? =some id):i=j:=by
 have hp:=List.pairwise_iff_getElem.1 (LX (g:=g));obtain⟨h1,e1⟩:=gA.1 hi;obtain⟨d,e2⟩:=gA.1 hj;rcases Nat.lt_trichotomy i j with h | h | h
 ·exact absurd (e1.trans e2.symm)<|hp i j h1 d h
 ·exact h
 exact absurd (e2.trans e1.symm)<|hp j i d h1 h
end
theorem tN {α:Type} {p:α->Bool}:∀{l:List α} {i n:Nat} {x:α},l[n]? =some x->p x=true->(∀k y,k<n->l[k]? =some y->p y=false)->eR p l i= .ofNat (i+n)
 | [],_,_,_,h,_,_=>by simp at h
 | y::l,i,0,x,h,hp,_=>by
  simp only[zm_,oJ_] at h;subst h;unfold eR;rw[hp];rfl
 | y::l,i,n+1,x,h,hp,hb=>by
  unfold eR;rw[hb 0 y oM Z];have:=tN (i:=i+1) (l:=l) (n:=n) (by simpa using h) hp fun k z hk hz=>hb (k+1) z oM (by simpa using hz)
  show eR p l (i+1)=_;rw[this,show i+1+n=i+(n+1) by omega]
def Og (g:XG) (id:bS):bS:=((((g.from_[id.bH.toNat-1]?).getD [])[id.index.toNat]?).getD ⟨0,0⟩)
def fB (g:XG) (i:Nat):Int:=bif cz (eu g i) then eR (fun x:bS=>cC x.ints (Og g<|eT g i).ints) (gu g) 0 else-1
def sV (g:XG) (loc:Int):List bS:=(g.order[loc.toNat]?).getD []
def fI (g:XG) (i:Nat):Int:=bif F (eT g i).bH 0 then 0 else(let p:=eR (fun x:bS=>cC x.ints (eT g i).ints) (sV g (eu g i).loc) 0;bif dH p 0 then-1 else wr .i64 (Int.add p 1))
def jT (g:XG):Rn:=fun i j=>bif (bif F (eT g i).bH 0 then dH 0 (eT g j).bH else false) then true else bif dH 0 (eT g i).bH then(bif F (eT g i).bH (eT g j).bH then dH (eT g i).index (eT g j).index else false) else false
def tf (g:XG):Rn:=fun i j=>F (fB g j) (.ofNat i)
def rY (g:XG):Rn:=fun i j=>bif bz (eu g i) then(bif bz (eu g j) then(bif F (eu g i).loc (eu g j).loc then dH (fI g i) (fI g j) else false) else false) else false
def uF (g:XG):Rn:=fun i j=>bif cL (F (.ofNat i) (.ofNat j)) then(bif cz (eu g i) then rY g (fB g i).toNat j else false) else false
def sU (g:XG):Rn:=fun i j=>bif cL (F (.ofNat i) (.ofNat j)) then(bif cL (F (eu g i).kind 4) then(bif cL (F (eu g j).kind 4) then F (eu g i).loc (eu g j).loc else false) else false) else false
def rM (g:XG) (i:Nat):Bool:=bif F (eu g i).order 3 then true else bif F (eu g i).order 5 then true else F (eu g i).order 6
def pJ (g:XG) (i:Nat):Bool:=bif F (eu g i).order 4 then true else bif F (eu g i).order 5 then true else F (eu g i).order 6
theorem xO {g:XG} {e:cm} (h:dV g id=some e):0<=id.index:=by
 obtain⟨th,ix⟩:=id;cases ix with
 | ofNat k=>exact Int.natCast_nonneg k
 | negSucc k=>cases th with
  | ofNat t=>cases t<;>simp[dV] at h
  | negSucc t=>simp[dV] at h
theorem HW {g:XG} (Q:dC g) {i:Nat} (hi:i<nV g) (K:cz (eu g i)=true):∃(t k:Nat) (row:List cm) (e:cm) (frow:List bS) (q:bS),eT g i=⟨.ofNat (t+1),.ofNat k⟩/\g.threads[t]? =some row/\row[k]? =some e/\eu g i=e/\g.from_[t]? =some frow/\frow[k]? =some q/\Og g (eT g i)=q/\∃f,f<nV g/\eT g f=q/\bz (eu g f)=true/\(eu g f).loc=(eu g i).loc/\q≠eT g i:=by
 rcases gh hi with ⟨x,v,h1,E,C⟩ | ⟨t,k,row,e,h1,E,C,L⟩
 ·rw[C] at K;exact Bool.noConfusion (show false=true from K)
 obtain⟨frow,z⟩:∃frow,g.from_[t]? =some frow:=⟨_,gC (by rw[Q.from_];exact(gA.1 E).1)⟩;obtain⟨hl,M⟩:=Q.rows t row frow E z;obtain⟨q,hq⟩:∃q,frow[k]? =some q:=⟨_,gC (by rw[hl];exact(gA.1 C).1)⟩;have hoke:=M k e q C hq;unfold yP at hoke
 have d:dO g ⟨.ofNat (t+1),.ofNat k⟩ q=true:=by
  revert hoke;cases bY e (.ofNat g.init.length)<;>intro hoke
  ·exact Bool.noConfusion (show false=true from hoke)
  exact hoke
 have N:dV g ⟨.ofNat (t+1),.ofNat k⟩=some e:=by rw[jJ,E];exact C
 rw[L] at K;unfold dO at d;rw[N] at d;simp only[show nf (some e)=e from Z,K,Bool.not_true,cond_false] at d;cases R:(dV g q).isSome with
 | false=>rw[R] at d;exact Bool.noConfusion (show false=true from d)
 | true=>
  obtain⟨w,hw⟩:=ze_.1 R;rw[hw] at d;simp only[Option.isSome_some,cond_true,show nf (some w)=w from Z] at d;cases hne:cC [q.bH,q.index] [Int.ofNat (t+1),Int.ofNat k] with
  | true=>rw[hne] at d;exact Bool.noConfusion (show false=true from d)
  | false=>
  rw[hne] at d;simp only[cond_false,cond_true] at d;cases A:bz w with
  | false=>rw[A] at d;exact Bool.noConfusion (show false=true from d)
  | true=>
  rw[A] at d;simp only[cond_true] at d;cases B:F w.loc e.loc with
  | false=>rw[B] at d;exact Bool.noConfusion (show false=true from d)
  | true=>
  obtain⟨f,hf⟩:=gO_ (Ci hw<|xO hw);have G:f<nV g:=(gA.1 hf).1;have I:eT g f=q:=zs_ ((eE G).symm.trans hf);have u:eu g f=w:=by unfold eu;rw[I,hw];rfl
  refine⟨t,k,row,e,frow,q,h1,E,C,L,z,hq,?_,f,G,I,by rw[u];exact A,by rw[u,L];rw[cK] at B;simpa using B,?_⟩
  ·unfold Og;rw[h1];show((((g.from_[t]?).getD [])[k]?).getD ⟨0,0⟩)=q;rw[z];show((frow[k]?).getD ⟨0,0⟩)=q;rw[hq];rfl
  rw[h1];intro e;rw[e] at hne;exact absurd Z<|mK.1 hne
theorem lU {x y:bS}:cC x.ints y.ints=true↔x=y:=by
 rw[dt];constructor
 ·intro h;obtain⟨a,b⟩:=x;obtain⟨c,d⟩:=y;have h: [a,b]= [c,d]:=h;simp at h;rw[h.1,h.2]
 intro h;rw[h]
theorem jL {g:XG} (A:dC g) {i:Nat} (hi:i<nV g) (u:cz (eu g i)=true):∃f,f<nV g/\fB g i= .ofNat f/\eT g f=Og g (eT g i)/\bz (eu g f)=true/\(eu g f).loc=(eu g i).loc/\f≠i:=by
 obtain⟨t,k,row,e,frow,q,h1,h2,h3,h4,h5,h6,z,f,hf,d,hw,hl,hne⟩:=HW A hi u;refine⟨f,hf,?_,by rw[d,z],hw,hl,fun e=>hne (by rw[<-d,e])⟩;unfold fB;rw[u,z]
 have:=tN (p:=fun x:bS=>cC x.ints q.ints) (l:=gu g) (i:=0) (n:=f) (by rw[eE hf,d]) (lU.2 Z) fun k y hk hy=>by
  cases B:cC y.ints q.ints with
  | false=>rfl
  | true=>
   rw[lU.1 B] at hy;have:=tM hy (by rw[eE hf,d]);omega
 rw[nA_] at this;exact this
theorem Da {x:Nat} (h:j<64):F (Int.tmod (Int.fdiv (.ofNat x) (2 ^ min (Int.toNat (.ofNat j)) 64)) 2) 0= !x.testBit j:=by
 have e1:min (Int.toNat (.ofNat j)) 64=j:=by show min j 64=j;omega
 rw[e1,wU]
 have e2:Int.fdiv (.ofNat x) (.ofNat (2 ^ j))= .ofNat (x/2 ^ j):=by
  show Int.fdiv ((x:Nat):Int) ((2 ^ j:Nat):Int)=_;rw[Int.fdiv_eq_ediv_of_nonneg _<|Int.natCast_nonneg _];rfl
 rw[e2];have d:Int.tmod (.ofNat (x/2 ^ j)) 2= .ofNat (x/2 ^ j%2):=rfl;rw[d,Nat.testBit_eq_decide_div_mod_eq];show Nat.beq (x/2 ^ j%2) 0=_;have:x/2 ^ j%2<2:=Nat.mod_lt _ oM;generalize x/2 ^ j%2=y at*
 match y,this with
 | 0,_=>rfl
 | 1,_=>rfl
inductive Sq (g:XG) (w:Nat):Nat->Prop where
 | base:Sq g w w
 | step {i f:Nat} (hi:i<nV g) (hk:F (eu g i).kind 3=true) (hf:fB g i= .ofNat f) (h:Sq g w f):Sq g w i
open Classical in
def mR (g:XG) (w:Nat):Nat->Bool:=fun k=>decide (Sq g w k)
theorem ug {g:XG} {w k:Nat}:mR g w k=true↔Sq g w k:=by unfold mR;simp
def gL (n:Nat) (p:Nat->Bool):Nat:=((List.range n).filter p).length
theorem BT (n:Nat) (p:Nat->Bool):gL n p<=n:=by
 unfold gL;have:=List.length_filter_le p (List.range n);simpa using this
theorem Au {n:Nat} {p q:Nat->Bool} (h:∀k,p k=true->q k=true):gL n p<=gL n q:=(filter_lt fun x _=>h x).1
theorem Lb {n i:Nat} {p:Nat->Bool} (hi:i<n) (h:p i=false):gL n p<gL n fun k=>p k || decide (k=i):=
 (filter_lt (fun x _ hx=>by simp[hx])).2 ⟨i,List.mem_range.2 hi,h,by simp⟩
theorem kW {e:cm} (h:F e.kind 3=true):cz e=true:=by unfold cz;rw[h];cases F e.kind 1<;>rfl
theorem PZ {g:XG} {w:Nat} {p:Nat->Bool} (hw:p w=true) (u:∀k,p k=true->Sq g w k) (z:∀i f,i<nV g->F (eu g i).kind 3=true->fB g i= .ofNat f->p f=true->p i=true):bL (nV g) p=bL (nV g) (mR g w):=by
 refine jq fun k _=>?_
 have d:∀{k},Sq g w k->p k=true:=fun h=>by
  induction h with
  | base=>exact hw
  | step hi hk hf _ ih=>exact z _ _ hi hk hf ih
 cases hb:mR g w k with
 | true=>exact d (ug.1 hb)
 | false=>
  cases hp:p k with
  | false=>rfl
  | true=>rw[ug.2<|u k hp] at hb;cases hb
theorem ow {n:Nat} {R:Rn} {a b:Nat}:(a,b)∈jk n R↔a<n/\b<n/\R a b=true:=by
 unfold jk;simp only[List.mem_flatMap,List.mem_range,zn_,List.mem_filter];constructor
 ·rintro ⟨x,hx,y,⟨hy,d⟩,he⟩;cases he;exact⟨hx,hy,d⟩
 rintro ⟨u,hb,d⟩;exact⟨a,u,b,⟨hb,d⟩,Z⟩
theorem Cu {l:List (Nat×Nat)} {a b:Nat}:wB l a b=true↔(a,b)∈l:=by
 unfold wB;simp only[List.any_eq_true,bA_,beq_iff_eq];constructor
 ·rintro ⟨⟨x,y⟩,hm,h1,d⟩;cases h1;cases d;exact hm
 intro h;exact⟨(a,b),h,Z,Z⟩
theorem lW {n:Nat} {R:Rn}:bC n (wB<|jk n R)=bC n R:=by
 refine cF fun a b d hb=>?_
 rw[zd_,Cu,ow];exact⟨fun h=>h.2.2,fun h=>⟨d,hb,h⟩⟩
theorem ou {n:Nat} {R:Rn}:∀p∈jk n R,p.1<n/\p.2<n:=fun⟨a,b⟩ h=>⟨(ow.1 h).1,(ow.1 h).2.1⟩
theorem H.Td {A B C D_:Own} (h:H O K (A++(B++(C++(D_++L))))):∃d,KP.le K d/\(∀e∈A,d e.1 e.2)/\(∀e∈B,d e.1 e.2)/\(∀e∈C,d e.1 e.2)/\(∀e∈D_,d e.1 e.2)/\H O d L:=
 ⟨(((K.iO A).iO B).iO C).iO D_,fun b o hb=>.inl (.inl (.inl (.inl hb))),fun e he=>.inl (.inl (.inl (.inr he))),fun e he=>.inl (.inl (.inr he)),fun e he=>.inl (.inr he),fun e he=>.inr he,h.keeps.keeps.keeps.keeps⟩
def jt (g:XG) (w:Nat):Bool:=bif bz (eu g w) then cL (F (eu g w).order 1) else false
def gH (g:XG) (w b:Nat):Bool:=bif cz (eu g b) then(bif F (eu g b).order 1 then false else mR g w (fB g b).toNat) else false
def fV (g:XG) (w r:Nat):Bool:=bif pJ g r then(bif F (.ofNat r) (.ofNat w) then true else bif F (eu g r).kind 4 then jT g r w else false) else false
def fQ (g:XG) (b a:Nat):Bool:=bif rM g a then(bif F (.ofNat a) (.ofNat b) then true else bif F (eu g a).kind 4 then jT g b a else false) else false
def mj {α:Type} (c:Nat->Bool) (f:Nat->List α):Nat->List α
 | 0=>[]
 | k+1=>mj c f k++(bif c k then f k else [])
def l4 (g:XG) (b r k:Nat):List (Nat×Nat):=mj (fQ g b) (fun a=>[(r,a)]) k
def l3 (g:XG) (w b k:Nat):List (Nat×Nat):=mj (fV g w) (fun r=>l4 g b r (nV g)) k
def l2 (g:XG) (w k:Nat):List (Nat×Nat):=mj (gH g w) (fun b=>l3 g w b (nV g)) k
def l1 (g:XG) (k:Nat):List (Nat×Nat):=mj (jt g) (fun w=>l2 g w (nV g)) k
theorem jx {α:Type} {c:Nat->Bool} {f:Nat->List α} {x:α}:∀{k:Nat},x∈mj c f k↔∃i,i<k/\c i=true/\x∈f i
 | 0=>⟨(fun h=>by cases h),fun⟨i,h,_⟩=>absurd h<|nZ_ _⟩
 | k+1=>by
  unfold mj;rw[List.mem_append,jx (k:=k)];constructor
  ·rintro (⟨i,h1,d,u⟩ | h)
   ·exact⟨i,by omega,d,u⟩
   cases z:c k with
   | false=>rw[z] at h;cases h
   | true=>rw[z] at h;exact⟨k,by omega,z,h⟩
  rintro ⟨i,h1,d,u⟩;rcases Nat.lt_or_ge i k with h | h
  ·exact .inl ⟨i,h,d,u⟩
  obtain rfl:i=k:=by omega
  exact .inr (by rw[d];exact u)
theorem qZ {α:Type} {c:Nat->Bool} {f:Nat->List α} {m:Nat} (h:∀i,c i=true->(f i).length<=m):∀{k:Nat},(mj c f k).length<=gL k c*m
 | 0=>Nat.zero_le _
 | k+1=>by
  unfold mj;have ih:=qZ (c:=c) (f:=f) h (k:=k)
  have u:gL (k+1) c=gL k c+(bif c k then 1 else 0):=by
   unfold gL;rw[List.range_succ,List.filter_append,lA_];cases d:c k<;>simp[d]
  rw[lA_,u];cases d:c k with
  | false=>simpa using ih
  | true=>
   have:=h k d;simp only[cond_true,Nat.add_mul,Nat.one_mul];omega
def vr (g:XG):Rn:=wB (l1 g<|nV g)
theorem II {g:XG} {r a:Nat}:vr g r a=true↔∃w b,w<nV g/\b<nV g/\r<nV g/\a<nV g/\jt g w=true/\gH g w b=true/\fV g w r=true/\fQ g b a=true:=by
 unfold vr;rw[Cu];unfold l1;rw[jx];constructor
 ·rintro ⟨w,hw,cw,h⟩;obtain⟨b,hb,cb,h⟩:=jx.1 h;obtain⟨r',d,cr,h⟩:=jx.1 h;obtain⟨a',u,ca,h⟩:=jx.1 h;cases List.mem_singleton.1 h;exact⟨w,b,hw,hb,d,u,cw,cb,cr,ca⟩
 rintro ⟨w,b,hw,hb,d,u,cw,cb,cr,ca⟩;exact⟨w,hw,cw,jx.2 ⟨b,hb,cb,jx.2 ⟨r,d,cr,jx.2 ⟨a,u,ca,List.mem_singleton.2 Z⟩⟩⟩⟩
theorem Tg {g:XG}:∀p∈l1 g (nV g),p.1<nV g/\p.2<nV g:=fun⟨r,a⟩ h=>by
 obtain⟨_,_,_,_,d,u,_⟩:=II.1 (Cu.2 h:vr g r a=true);exact⟨d,u⟩
theorem HY:∀{l:List (List cm)} {t T:Nat},T<t+1->(jh l t).filter (fun id=>F id.bH (.ofNat T))= []
 | [],_,_,_=>rfl
 | r::l,t,T,h=>by
  unfold jh;rw[List.filter_append,HY oM,zk_,List.filter_eq_nil_iff];intro a d;obtain⟨k,_,rfl⟩:=zn_.1 d;simp only[eW,decide_eq_true_eq];omega
theorem Eg:∀{l:List (List cm)} {t T:Nat},(∀r∈l,r.length<=14)->((jh l t).filter (fun id=>F id.bH (.ofNat T))).length<=14
 | [],_,_,_=>Nat.zero_le _
 | r::l,t,T,h=>by
  unfold jh;rw[List.filter_append,lA_];rcases Nat.lt_or_ge T (t+2) with hT | hT
  ·rw[HY (l:=l) (t:=t+1) (T:=T) oM];have h1:=List.length_filter_le (fun id:bS=>F id.bH (.ofNat T)) ((List.range r.length).map fun i=>(⟨.ofNat (t+1),.ofNat i⟩:bS));rw[lM_,List.length_range] at h1;have:=h r (mS_ ..);simp only[List.length_nil,Nat.add_zero];omega
  have:((List.range r.length).map fun i=>(⟨.ofNat (t+1),.ofNat i⟩:bS)).filter (fun id=>F id.bH (.ofNat T))= []:=by
   rw[List.filter_eq_nil_iff];intro a d;obtain⟨k,_,rfl⟩:=zn_.1 d;simp only[eW,decide_eq_true_eq];omega
  rw[this];have:=Eg (l:=l) (t:=t+1) (T:=T) fun r u=>h r (mC_ _ u)
  simpa using this
theorem Pa {g:XG}:gu g=(List.range<|nV g).map (eT g):=by
 refine zf_ fun i=>?_
 by_cases hi:i<nV g
 ·rw[eE hi,gM_,zr_ hi];rfl
 rw[gN_<|Nat.le_of_not_lt hi,gN_ (by simpa using Nat.le_of_not_lt hi)]
theorem zx {g:XG} (d:dC g) (T:Nat):gL (nV g) (fun a=>F (eT g a).bH (.ofNat (T+1)))<=14:=by
 have h1:((gu g).filter (fun id=>F id.bH (.ofNat (T+1)))).length<=14:=by
  unfold gu;rw[List.filter_append,lA_]
  have:((List.range g.init.length).map fun i=>(⟨0,.ofNat i⟩:bS)).filter (fun id=>F id.bH (.ofNat (T+1)))= []:=by
   rw[List.filter_eq_nil_iff];intro a u;obtain⟨k,_,rfl⟩:=zn_.1 u;show¬F (.ofNat 0) (.ofNat (T+1))=true;simp only[eW,decide_eq_true_eq];omega
  rw[this]
  have:=Eg (l:=g.threads) (t:=0) (T:=T+1) fun r z=>by
   obtain⟨i,hi⟩:=gO_ z;exact d.short i r hi
  simpa using this
 rw[Pa,List.filter_map,lM_] at h1;exact h1
theorem Le {n:Nat} {p q r:Nat->Bool} (h:∀i,i<n->p i=true->q i=true∨r i=true):gL n p<=gL n q+gL n r:=by
 unfold gL
 have:∀l:List Nat,(∀i∈l,p i=true->q i=true∨r i=true)->(l.filter p).length<=(l.filter q).length+(l.filter r).length:=by
  intro l;induction l with
  | nil=>intro _;simp
  | cons x l ih=>
   intro hl;have ih:=ih fun i hi=>hl i (mC_ _ hi)
   have hx:=hl x (mS_ ..);simp only[List.filter_cons];cases hp:p x<;>cases hq:q x<;>cases hr:r x<;>simp_all<;>omega
 exact this _ fun i hi=>h i (List.mem_range.1 hi)
theorem HL {n w:Nat}:gL n (fun i=>F (.ofNat i) (.ofNat w))<=1:=by
 induction n with
 | zero=>exact Nat.zero_le _
 | succ n ih=>
  have u:gL (n+1) (fun i=>F (.ofNat i) (.ofNat w))=gL n (fun i=>F (.ofNat i) (.ofNat w))+(bif F (.ofNat n) (.ofNat w) then 1 else 0):=by
   unfold gL;rw[List.range_succ,List.filter_append,lA_];cases d:F (.ofNat n) (.ofNat w)<;>simp only[List.filter_cons,List.filter_nil,d,cond_true,cond_false,zi_,if_false,if_true,List.length_nil,zc_]
  rw[u];cases d:F (.ofNat n) (.ofNat w) with
  | false=>simpa using ih
  | true=>
   have hn:n=w:=by rw[eW] at d;simpa using d
   have:gL n (fun i=>F (.ofNat i) (.ofNat w))=0:=by
    unfold gL;rw[List.length_eq_zero_iff,List.filter_eq_nil_iff];intro i hi;have:=List.mem_range.1 hi;simp only[eW,decide_eq_true_eq];omega
   rw[this];simp
theorem Ce {g:XG} {i:Nat} (hi:i<nV g) (h:F (eu g i).kind 2=false):∃T:Nat,(eT g i).bH= .ofNat (T+1):=by
 rcases gh hi with ⟨x,v,h1,h2,d⟩ | ⟨t,k,row,e,h1,_⟩
 ·rw[d] at h;exact Bool.noConfusion (show true=false from h)
 exact⟨t,by rw[h1]⟩
theorem JJ {e:cm} {n:Int} (h:F e.kind n=true) (hn:n≠2):F e.kind 2=false:=by
 rw[cK] at h⊢;have:e.kind=n:=by simpa using h
 rw[this];simp[hn]
theorem Ik {g:XG} {i T:Nat} (hi:(eT g i).bH= .ofNat (T+1)) (h:jT g i j=true):(eT g j).bH= .ofNat (T+1):=by
 unfold jT at h;rw[hi] at h;have e1:F (.ofNat (T+1)) 0=false:=rfl;rw[e1] at h;simp only[cond_false] at h;cases u:dH 0 (.ofNat (T+1)) with
 | false=>rw[u] at h;cases h
 | true=>
  rw[u] at h;simp only[cond_true] at h;cases d:F (.ofNat (T+1)) (eT g j).bH with
  | false=>rw[d] at h;cases h
  | true=>rw[cK] at d;exact(of_decide_eq_true d).symm
theorem U8 {g:XG} (A:dC g) {b:Nat} (hb:b<nV g) (u:cz (eu g b)=true):gL (nV g) (fQ g b)<=15:=by
 obtain⟨T,hT⟩:∃T:Nat,(eT g b).bH= .ofNat (T+1):=by
  rcases gh hb with ⟨x,v,h1,z,d⟩ | ⟨t,k,row,e,h1,_⟩
  ·rw[d] at u;exact Bool.noConfusion (show false=true from u)
  exact⟨t,by rw[h1]⟩
 refine Nat.le_trans (Le (q:=fun a=>F (.ofNat a) (.ofNat b)) (r:=fun a=>F (eT g a).bH (.ofNat (T+1))) fun a ha h=>?_)<|Nat.add_le_add HL<|zx A T;unfold fQ at h;cases h1:rM g a with
 | false=>rw[h1] at h;cases h
 | true=>
 rw[h1] at h;simp only[cond_true] at h;cases z:F (.ofNat a) (.ofNat b) with
 | true=>exact .inl Z
 | false=>
 rw[z] at h;simp only[cond_false] at h;cases d:F (eu g a).kind 4 with
 | false=>rw[d] at h;cases h
 | true=>
  rw[d] at h;exact .inr (by rw[Ik hT h];exact fR _)
theorem SZ {g:XG} (A:dC g) {w:Nat} (hw:w<nV g):gL (nV g) (fV g w)<=15:=by
 refine Nat.le_trans (Le (q:=fun a=>F (.ofNat a) (.ofNat w)) (r:=fun a=>bif F (eu g a).kind 4 then jT g a w else false) fun a d h=>?_) ?_
 ·unfold fV at h;cases h1:pJ g a with
  | false=>rw[h1] at h;cases h
  | true=>
  rw[h1] at h;simp only[cond_true] at h;cases u:F (.ofNat a) (.ofNat w) with
  | true=>exact .inl Z
  | false=>rw[u] at h;exact .inr h
 refine Nat.le_trans (Nat.add_le_add HL (?_:_<=14)) (by decide)
 by_cases hex:∃a,a<nV g/\(bif F (eu g a).kind 4 then jT g a w else false)=true
 ·obtain⟨a,d,h⟩:=hex
  have fen:∀{a},a<nV g->(bif F (eu g a).kind 4 then jT g a w else false)=true->∃T:Nat,(eT g a).bH= .ofNat (T+1)/\(eT g w).bH= .ofNat (T+1):=by
   intro a d h;cases z:F (eu g a).kind 4 with
   | false=>rw[z] at h;cases h
   | true=>
    rw[z] at h;obtain⟨T,hT⟩:=Ce d (JJ z (by decide));exact⟨T,hT,Ik hT h⟩
  obtain⟨T,_,hT⟩:=fen d h;refine Nat.le_trans (filter_lt fun x hx hp=>?_).1<|zx A T;obtain⟨T',h1,u⟩:=fen (List.mem_range.1 hx) hp;have:T'=T:=by rw[hT] at u;have:=iJ_ u;omega
  rw[h1,this];exact fR _
 have:gL (nV g) (fun a=>bif F (eu g a).kind 4 then jT g a w else false)=0:=by
  unfold gL;rw[List.length_eq_zero_iff,List.filter_eq_nil_iff];exact fun a d h=>hex ⟨a,List.mem_range.1 d,h⟩
 omega
theorem q9 {c:Nat->Bool} {f:Nat->List α} {k:Nat} (h:c k=true):mj c f (k+1)=mj c f k++f k:=by rw[mj,h];rfl
theorem tJ {c:Nat->Bool} {f:Nat->List α} {k:Nat} (h:c k=false):mj c f (k+1)=mj c f k:=by rw[mj,h];exact zk_ _
section
variable {g:XG} {w b r a:Nat} {X Y0 Zv:List (Nat×Nat)}
theorem UR (h:fQ g b a=true):(X++(Y0++(Zv++l4 g b r a)))++[(r,a)]=X++(Y0++(Zv++l4 g b r (a+1))):=by
 rw[show l4 g b r (a+1)=l4 g b r a++[(r,a)] from q9 h];simp only[lQ_]
theorem SG (h:fQ g b a=false):X++(Y0++(Zv++l4 g b r a))=X++(Y0++(Zv++l4 g b r (a+1))):=by rw[show l4 g b r (a+1)=l4 g b r a from tJ h]
theorem Wo (h:fV g w r=true):X++(Y0++(l3 g w b r++l4 g b r (nV g)))=X++(Y0++l3 g w b (r+1)):=by rw[show l3 g w b (r+1)=l3 g w b r++l4 g b r (nV g) from q9 h]
theorem VS (h:fV g w r=false):X++(Y0++l3 g w b r)=X++(Y0++l3 g w b (r+1)):=by rw[show l3 g w b (r+1)=l3 g w b r from tJ h]
theorem WZ (h:gH g w b=true):X++(l2 g w b++l3 g w b (nV g))=X++l2 g w (b+1):=by rw[show l2 g w (b+1)=l2 g w b++l3 g w b (nV g) from q9 h]
theorem VQ (h:gH g w b=false):X++l2 g w b=X++l2 g w (b+1):=by rw[show l2 g w (b+1)=l2 g w b from tJ h]
theorem Wn (h:jt g w=true):l1 g w++l2 g w (nV g)=l1 g (w+1):=by rw[show l1 g (w+1)=l1 g w++l2 g w (nV g) from q9 h]
theorem VP (h:jt g w=false):l1 g w=l1 g (w+1):=by rw[show l1 g (w+1)=l1 g w from tJ h]
theorem Nj {i:Nat} (h:cz (eu g i)=true):i<nV g:=by
 rcases Nat.lt_or_ge i (nV g) with hi | hi
 ·exact hi
 have e1:eT g i=⟨0,0⟩:=by unfold eT;rw[gN_ hi];rfl
 unfold eu at h;rw[e1] at h;have e2:dV g ⟨0,0⟩=(g.init[0]?).map fun v=>(⟨2,(0:Nat),1,0,v⟩:cm):=rfl
 rw[e2] at h;cases d:g.init[0]? with
 | none=>rw[d] at h;exact Bool.noConfusion (show false=true from h)
 | some v=>rw[d] at h;exact Bool.noConfusion (show false=true from h)
theorem Lc {p:Nat->Bool} {k n:Nat} (h:k<=n):gL k p<=gL n p:=by
 unfold gL;exact((List.range_sublist.2 h).filter p).length_le
theorem Me (u:dC g) (d:cz (eu g b)=true) {k:Nat} (hk:k<=nV g):(l4 g b r k).length<=15:=by
 have h1:=qZ (c:=fQ g b) (f:=fun a=>[(r,a)]) (m:=1) (fun _ _=>nR_ _) (k:=k);have h2:=U8 u (Nj d) d;have h3:=Lc (p:=fQ g b) hk;unfold l4;omega
theorem Mc (d:dC g) (hw:w<nV g) (u:cz (eu g b)=true) {k:Nat} (hk:k<=nV g):(l3 g w b k).length<=225:=by
 have h1:=qZ (c:=fV g w) (f:=fun r=>l4 g b r<|nV g) (m:=15) (fun _ _=>Me d u (nR_ _)) (k:=k);have h2:=SZ d hw;have h3:=Lc (p:=fV g w) hk;unfold l3;omega
theorem DX (h:gH g w b=true):cz (eu g b)=true:=by
 unfold gH at h;cases d:cz (eu g b) with
 | true=>rfl
 | false=>rw[d] at h;cases h
theorem Mb (d:dC g) (hw:w<nV g) {k:Nat} (hk:k<=nV g):(l2 g w k).length<=13950:=by
 have h1:=qZ (c:=gH g w) (f:=fun b=>l3 g w b<|nV g) (m:=225) (fun _ h=>Mc d hw (DX h) (nR_ _)) (k:=k);have h2:=BT k (gH g w);have h3:=jQ d;unfold l2;omega
theorem RK (d:dC g) {k:Nat} (hk:k<=nV g):(l1 g k).length<=864900:=by
 have key:∀k,k<=nV g->(l1 g k).length<=k*13950:=by
  intro k;induction k with
  | zero=>intro _;exact Nat.zero_le _
  | succ k ih=>
   intro hk;have ih:=ih oM;cases u:jt g k with
   | true=>
    rw[<-Wn u,lA_];have:=Mb d (w:=k) oM (nR_<|nV g);omega
   | false=>rw[<-VP u];exact Nat.le_trans ih<|nM_ _<|Nat.le_succ k
 have h1:=key k hk;have h3:=jQ d;omega
theorem CY (u:dC g) (hw:w<nV g) (hb:b<nV g) (hr:r<nV g) (ha:a<nV g) (d:cz (eu g b)=true):(l1 g w++(l2 g w b++(l3 g w b r++l4 g b r a))).length+1<=1000000:=by
 simp only[lA_];have h1:=RK u (k:=w) oM;have h2:=Mb u hw (k:=b) oM;have h3:=Mc u hw d (k:=r) oM;have h4:=Me u d (r:=r) (k:=a) oM;omega
end
def lh (g:XG) (id:bS):Int:=bif (dV g id).isSome then(bif bz (nf<|dV g id) then eR (fun x:bS=>cC x.ints id.ints) (fq g (nf<|dV g id).loc) 0 else-1) else-1
def oK (g:XG) (id:bS):Bool:=bif F id.bH 0 then false else bif cL (F (nf<|dV g id).kind 3) then false else cL (F (lh g id)<|wr .i64<|Int.add (lh g<|Og g id) 1)
def Fk (g:XG):Int:=eR (oK g) (gu g) 0
def s8 (n:Nat) (R:Rn):Int:=eR (fun i=>lz n R i i) (List.range n) 0
def sM (g:XG):Rn:=lz (nV g) (jR [tf g,rY g,uF g])
def A6 (g:XG):Rn:=lz (nV g) (jR [jT g,tf g])
def AJ (g:XG):Rn:=lz (nV g) (jR [jT g,vr g])
def FN (g:XG):Rn:=jR [jT g,tf g,rY g,uF g]
def Jl (g:XG):Bool:=(jk (nV g)<|uG (AJ g)<|mP<|sM g).any fun p=>cL (F (.ofNat p.1) (.ofNat p.2))
def ff (g:XG) (x:Int):Bool:=
 bif F x 2 then cL (dH (Fk g) 0) else bif F x 3 then cL (dH (s8 (nV g)<|A6 g) 0) else bif F x 4 then cL (dH (s8 (nV g)<|AJ g) 0) else
 bif F x 6 then cL (dH (s8 (nV g)<|FN g) 0) else bif F x 5 then Jl g else false
def eG (m:Int):List Int:=bif F m 1 then [1,2,6] else bif F m 2 then [1,2,3,4,5] else []
def tc (m:Int) (g:XG):Bool:=bif F (.ofNat (eG m).length) 0 then false else bif F (ec g) 0 then(eG m).any (ff g) else true
theorem qh {α:Type} {p:α->Bool}:∀{l:List α} {i:Nat},dH (eR p l i) 0= !(l.any p)
 | [],_=>rfl
 | x::l,i=>by
  unfold eR;rw[List.any_cons];cases hx:p x with
  | true=>rfl
  | false=>rw[Bool.false_or];exact qh
variable {ln:Nat}
structure Pm (n:Nat) (p q:Nat->Nat):Prop where
 lt:∀t,t<n->p t<n
 Xj:∀t,t<n->q t<n
 qp:∀t,t<n->q (p t)=t
 pq:∀t,t<n->p (q t)=t
section
variable {n:Nat} {p q:Nat->Nat} {g:XG}
theorem AY (u:dC g) {r:List bS} (z:g.order[ln]? =some r) {x:bS} (hx:x∈r):∃(t k:Nat) (row:List cm) (e:cm),x=⟨.ofNat (t+1),.ofNat k⟩/\g.threads[t]? =some row/\row[k]? =some e/\bz e=true/\e.loc= .ofNat ln:=by
 have h:(x.ints,Int.ofNat ln)∈nH g.order 0:=jS.2 ⟨ln,r,x,z,hx,Z,by rw[nA_]⟩;obtain⟨t,k,row,e,h1,A,B,d,h5⟩:=kH.1 (u.perm.mem_iff.2 h);rw[nA_] at d;exact⟨t,k,row,e,om d,h1,A,B,h5.symm⟩
end
section
variable {g:XG}
theorem L7 {e:cm} (h:bz e=true):F e.kind 4=false:=by
 unfold bz at h;cases d:F e.kind 2 with
 | true=>rw[cK] at d⊢;rw[of_decide_eq_true d];rfl
 | false=>
  rw[d] at h;have h:F e.kind 3=true:=h;rw[cK] at h⊢;rw[of_decide_eq_true h];rfl
theorem qy (C:dC g) {i:Nat} (hi:i<nV g):(bz (eu g i)=true/\∃p:Nat,fI g i= .ofNat p)∨(bz (eu g i)=false/\fI g i= -1):=by
 rcases gh hi with ⟨x,v,h1,_,B⟩ | ⟨t,k,row,e,h1,d,B,E⟩
 ·refine .inl ⟨by rw[B];rfl,0,?_⟩;unfold fI;rw[h1];rfl
 have hp:fI g i=(bif dH (eR (fun x:bS=>cC x.ints (eT g i).ints) (sV g e.loc) 0) 0 then-1 else wr .i64 (Int.add (eR (fun x:bS=>cC x.ints (eT g i).ints) (sV g e.loc) 0) 1)):=by
  unfold fI;rw[E];have:F (eT g i).bH 0=false:=by rw[h1];rfl
  rw[this];rfl
 cases hw:bz e with
 | true=>
  refine .inl ⟨by rw[E];exact hw,?_⟩;have hm:((⟨.ofNat (t+1),.ofNat k⟩:bS).ints,e.loc)∈gX g.threads 0:=kH.2 ⟨t,k,row,e,d,B,hw,by rw[nA_];rfl,Z⟩;obtain⟨ln,r,id,M,N,W,Q⟩:=jS.1 (C.perm.mem_iff.1 hm);rw[nA_] at Q;have G:id=eT g i:=by rw[h1];exact(om W).symm
  subst G;have u:sV g e.loc=r:=by unfold sV;rw[Q,show(Int.ofNat ln).toNat=ln from Z,M];rfl
  rw[u] at hp
  have z:dH (eR (fun x:bS=>cC x.ints (eT g i).ints) r 0) 0=false:=by
   have A:(r.any fun x:bS=>cC x.ints (eT g i).ints)=true:=List.any_eq_true.2 ⟨_,N,dt.2 Z⟩;rw[qh,A];rfl
  obtain⟨a,I,aa⟩:∃a:Nat,eR (fun x:bS=>cC x.ints (eT g i).ints) r 0= .ofNat a/\a<r.length:=by
   have:∀{l:List bS} {b:Nat},l.any (fun x:bS=>cC x.ints (eT g i).ints)=true->∃a:Nat,eR (fun x:bS=>cC x.ints (eT g i).ints) l b= .ofNat (b+a)/\a<l.length:=by
    intro l;induction l with
    | nil=>intro b h;cases h
    | cons y l ih=>
     intro b h;unfold eR;cases hy:cC y.ints (eT g i).ints with
     | true=>exact⟨0,Z,Nat.succ_pos _⟩
     | false=>
      rw[List.any_cons,hy,Bool.false_or] at h;obtain⟨a,h1,d⟩:=ih (b:=b+1) h;exact⟨a+1,by show eR _ l (b+1)=_;rw[h1,show b+1+a=b+(a+1) by omega],Nat.succ_lt_succ d⟩
   obtain⟨a,h1,d⟩:=this (b:=0) (List.any_eq_true.2 ⟨_,N,dt.2 Z⟩);exact⟨a,by rw[h1,nA_],d⟩
  have hrl:=mz (fl.2 C) r (gB_ M);refine⟨a+1,?_⟩;rw[hp,z,I];exact aX oM
 | false=>
  refine .inr ⟨by rw[E];exact hw,?_⟩
  have K:(sV g e.loc).any (fun x:bS=>cC x.ints (eT g i).ints)=false:=by
   refine List.any_eq_false.2 fun x hx X=>?_
   have e1:x=eT g i:=om (dt.1 X);unfold sV at hx;cases u:g.order[e.loc.toNat]? with
   | none=>rw[u] at hx;cases hx
   | some r=>
    rw[u] at hx;obtain⟨t',k',row',e',L,R,S,T,_⟩:=AY C u hx;rw[e1,h1] at L;have ht:t=t':=by have:=iJ_ (congrArg bS.bH L);omega
    have hk:k=k':=iJ_ (congrArg bS.index L);subst ht;subst hk;rw[d] at R;cases R;rw[B] at S;cases S;rw[hw] at T;cases T
  rw[hp,qh,K];rfl
def sg (g:XG) (i j:Nat):Bool:= !(F (eu g i).kind 4) && (!(F (eu g j).kind 4) && F (eu g i).loc (eu g j).loc)
theorem Va (z:dC g) {i:Nat} (hi:i<nV g) (hj:j<nV g):(!(dH (fI g i) 0) && (sg g i j && dH (fI g i) (fI g j)))=rY g i j:=by
 unfold rY sg;have neg:∀a:Nat,dH (Int.ofNat a) 0=false:=fun a=>by rw[show(0:Int)= .ofNat 0 from Z,lK];simp
 rcases qy z hi with ⟨h1,p,d⟩ | ⟨h1,d⟩
 ·rcases qy z hj with ⟨u,q,A⟩ | ⟨u,A⟩
  ·rw[h1,u,L7 h1,L7 u,d,neg];cases F (eu g i).loc (eu g j).loc<;>rfl
  have:dH (fI g i) (fI g j)=false:=by
   rw[d,A,dq,decide_eq_false_iff_not];intro hlt;have:(0:Int)<=Int.ofNat p:=Int.natCast_nonneg p;omega
  rw[h1,u,this,Bool.and_false,Bool.and_false];rfl
 have:dH (fI g i) 0=true:=by rw[d];rfl
 rw[h1,this];rfl
theorem Vh (u:dC g) {i:Nat} (hi:i<nV g) (hj:j<nV g):(!(F (.ofNat i) (.ofNat j)) && (!(dH (fB g i) 0) && rY g (fB g i).toNat j))=uF g i j:=by
 unfold uF;cases d:cz (eu g i) with
 | false=>
  have:fB g i= -1:=by unfold fB;rw[d];rfl
  rw[this];cases F (.ofNat i) (.ofNat j)<;>rfl
 | true=>
  obtain⟨f,_,z,_⟩:=jL u hi d;have:dH (fB g i) 0=false:=by rw[z,show(0:Int)= .ofNat 0 from Z,lK];simp
  rw[this];cases F (.ofNat i) (.ofNat j)<;>rfl
theorem Tj {i:Nat}:(!(F (.ofNat i) (.ofNat j)) && sg g i j)=sU g i j:=by
 unfold sU sg;cases F (.ofNat i) (.ofNat j)<;>cases F (eu g i).kind 4<;>cases F (eu g j).kind 4<;>rfl
theorem UC {i:Nat} (hi:i<nV g) (hj:j<nV g):(!(F (eT g j).bH 0) && (F (eT g i).bH 0 || (F (eT g i).bH (eT g j).bH && dH (eT g i).index (eT g j).index)))=jT g i j:=by
 unfold jT;have pos:∀a:Nat,dH 0 (Int.ofNat (a+1))=true:=fun a=>by rw[show(0:Int)= .ofNat 0 from Z,lK];simp
 rcases gh hi with ⟨x,v,h1,_⟩ | ⟨t,k,row,e,h1,_⟩<;>rcases gh hj with ⟨y,u,d,_⟩ | ⟨s,q,row',e',d,_⟩<;>rw[h1,d]<;>dsimp only
 ·rfl
 ·rw[pos];rfl
 ·rw[pos t];rfl
 rw[pos t,pos s];cases F (Int.ofNat (t+1)) (Int.ofNat (s+1))<;>rfl
end
section
variable {g:XG}
theorem Lq {i:Nat} (hi:i<nV g):dV g (eT g i)=some (eu g i):=by
 rcases gh hi with ⟨x,v,h1,d,u⟩ | ⟨t,k,row,e,h1,d,u,z⟩
 ·rw[u,h1];show(g.init[x]?).map (fun v=>(⟨2,x,1,0,v⟩:cm))=_;rw[d];rfl
 rw[h1,jJ,d,z];exact u
def oZ (g:XG) (loc:Int) (id:bS):Int:=bif F id.bH 0 then 0 else wr .i64 (Int.add (eR (fun x:bS=>cC x.ints id.ints) (sV g loc) 0) 1)
theorem yt {α:Type} {p:α->Bool}:∀{l:List α} {b:Nat},l.any p=true->∃a:Nat,a<l.length/\∀b,eR p l b= .ofNat (b+a)
 | [],_,h=>by cases h
 | y::l,b,h=>by
  cases hy:p y with
  | true=>exact⟨0,Nat.succ_pos _,fun b=>by unfold eR;rw[hy];rfl⟩
  | false=>
   rw[List.any_cons,hy,Bool.false_or] at h;obtain⟨a,h1,d⟩:=yt (b:=b) h
   exact⟨a+1,Nat.succ_lt_succ h1,fun b=>by
    unfold eR;rw[hy];show eR p l (b+1)=_;rw[d,show b+1+a=b+(a+1) by omega]⟩
theorem A1 (u:dC g) {i:Nat} (hi:i<nV g) (hw:bz (eu g i)=true):lh g (eT g i)=oZ g (eu g i).loc (eT g i):=by
 have K:F (ec g) 0=true:=by rw[fl.2 u];rfl
 have key:∀{ln:Nat} {r:List bS},(eu g i).loc= .ofNat ln->g.order[ln]? =some r->lh g (eT g i)=eR (fun x:bS=>cC x.ints (eT g i).ints) (⟨0,.ofNat ln⟩::r) 0:=by
  intro ln r hl L;unfold lh;rw[Lq hi];show(bif bz (eu g i) then eR _ (fq g (eu g i).loc) 0 else-1)=_;rw[hw,hl,te K L];rfl
 rcases gh hi with ⟨x,v,h1,z,A⟩ | ⟨t,k,row,e,h1,z,A,G⟩
 ·have hx:x<g.order.length:=by rw[u.order];exact(gA.1 z).1
  have hl:(eu g i).loc= .ofNat x:=by rw[A]
  rw[key hl<|gC hx,h1];unfold oZ;exact tN (n:=0) Z (lU.2 Z) fun k _ hk _=>absurd hk (nZ_ _)
 have B:bz e=true:=by rw[<-G];exact hw
 have hm:((⟨.ofNat (t+1),.ofNat k⟩:bS).ints,e.loc)∈gX g.threads 0:=kH.2 ⟨t,k,row,e,z,A,B,by rw[nA_];rfl,Z⟩;obtain⟨ln,r,id,C,M,N,I⟩:=jS.1 (u.perm.mem_iff.1 hm);rw[nA_] at I;have E:id=eT g i:=by rw[h1];exact(om N).symm
 subst E;have hl:(eu g i).loc= .ofNat ln:=by rw[G];exact I
 have d:(r.any fun x:bS=>cC x.ints (eT g i).ints)=true:=List.any_eq_true.2 ⟨_,M,dt.2 Z⟩;obtain⟨a,ha,hb⟩:=yt (b:=0) d;have hrl:=mz (fl.2 u) r (gB_ C)
 have hne:cC (⟨0,.ofNat ln⟩:bS).ints (eT g i).ints=false:=by
  cases Q:cC (⟨0,.ofNat ln⟩:bS).ints (eT g i).ints with
  | false=>rfl
  | true=>
   have:=congrArg bS.bH (lU.1 Q);rw[h1] at this;have:(0:Int)=((t+1:Nat):Int):=this;omega
 rw[key hl C];have R:sV g (eu g i).loc=r:=by unfold sV;rw[hl,show(Int.ofNat ln).toNat=ln from Z,C];rfl
 have e1:eR (fun x:bS=>cC x.ints (eT g i).ints) (⟨0,.ofNat ln⟩::r) 0= .ofNat (a+1):=by
  unfold eR;rw[hne];show eR _ r (0+1)=_;rw[hb,show 0+1+a=a+1 by omega]
 have e2:oZ g (eu g i).loc (eT g i)= .ofNat (a+1):=by
  unfold oZ;rw[R,hb,nA_,show F (eT g i).bH 0=false by rw[h1];rfl];exact aX oM
 rw[e1,e2]
def BH (g:XG) (t k:Nat) (e:cm):Bool:=bif F e.kind 3 then cL (F (oZ g e.loc ⟨.ofNat (t+1),.ofNat k⟩)<|wr .i64<|Int.add (oZ g e.loc<|Og g ⟨.ofNat (t+1),.ofNat k⟩) 1) else false
theorem HB (E:dC g) {t k:Nat} {row:List cm} {e:cm} (M:g.threads[t]? =some row) (N:row[k]? =some e):oK g ⟨.ofNat (t+1),.ofNat k⟩=BH g t k e:=by
 have d:dV g ⟨.ofNat (t+1),.ofNat k⟩=some e:=by rw[jJ,M];exact N
 unfold oK BH;rw[d,show nf (some e)=e from Z,show F (⟨.ofNat (t+1),.ofNat k⟩:bS).bH 0=false from Z];cases hk:F e.kind 3 with
 | false=>rfl
 | true=>
  obtain⟨i,A⟩:=gO_ (Ci d<|xO d);have hi:i<nV g:=(gA.1 A).1;have z:eT g i=⟨.ofNat (t+1),.ofNat k⟩:=zs_ ((eE hi).symm.trans A);have u:eu g i=e:=zs_ ((Lq hi).symm.trans (by rw[z];exact d));have B:e.kind=3:=by rw[cK] at hk;exact of_decide_eq_true hk
  have G:cz (eu g i)=true:=by rw[u];unfold cz;rw[B];rfl
  have I:bz (eu g i)=true:=by rw[u];unfold bz;rw[B];rfl
  obtain⟨f,hf,_,C,K,L,_⟩:=jL E hi G;have p1:=A1 E hi I;have p2:=A1 E hf K;rw[z,u] at p1;rw[C,L,z,u] at p2;show(bif cL true then false else cL (F (lh g ⟨.ofNat (t+1),.ofNat k⟩)<|wr .i64<|Int.add (lh g<|Og g ⟨.ofNat (t+1),.ofNat k⟩) 1))=_;rw[p1,p2];rfl
def tg (g:XG) (t k:Nat):Prop:=(iH g g.init.length t k).any (oK g)=false
theorem LF:tg g 0 0:=by
 unfold tg;refine List.any_eq_false.2 fun x hx=>?_
 unfold iH at hx;simp only[List.take_zero,jh,List.range_zero,List.map_nil,zk_,zn_] at hx;obtain⟨i,_,rfl⟩:=hx;exact Bool.false_ne_true
theorem LG {t k:Nat} {row:List cm} {e:cm} (d:dC g) (h:tg g t k) (u:g.threads[t]? =some row) (z:row[k]? =some e) (hb:BH g t k e=false):tg g t (k+1):=by
 unfold tg at h⊢;rw[<-yl,List.any_append,h,List.any_cons,HB d u z,hb];rfl
theorem Rx {t:Nat} {row:List cm} (h:tg g t row.length) (d:g.threads[t]? =some row):tg g (t+1) 0:=by
 unfold tg at h⊢;rw[<-Gq d];exact h
theorem LC {t:Nat} (h:tg g t 0) (d:g.threads.length<=t):dH (Fk g) 0=true:=by
 unfold Fk;unfold tg at h;rw[yj d] at h;rw[qh,h];rfl
theorem Ej {α:Type} {p:α->Bool}:∀{l r:List α} {x:α} {b:Nat},l.any p=false->p x=true->eR p (l++x::r) b= .ofNat (b+l.length)
 | [],r,x,b,_,hx=>by show eR p (x::r) b=_;unfold eR;rw[hx];rfl
 | y::l,r,x,b,h,hx=>by
  rw[List.any_cons,Bool.or_eq_false_iff] at h;show eR p (y::(l++x::r)) b=_;unfold eR;rw[h.1];show eR p (l++x::r) (b+1)=_;rw[Ej h.2 hx,zc_,show b+1+l.length=b+(l.length+1) by omega]
theorem yq:∀{l:List (List cm)} {t s k:Nat} {row:List cm},l[t]? =some row->k<row.length->∃r,jh l s=jh (l.take t) s++((List.range k).map fun i=>(⟨.ofNat (s+t+1),.ofNat i⟩:bS))++⟨.ofNat (s+t+1),.ofNat k⟩::r
 | [],_,_,_,_,h,_=>by cases h
 | r::l,0,s,k,row,h,hk=>by
  simp only[zm_,oJ_] at h;subst h
  have d:List.range r.length=List.range k++k::(List.range (r.length-k-1)).map (fun i=>i+(k+1)):=by
   apply zf_;intro n;rcases Nat.lt_trichotomy n k with hn | hn | hn
   ·rw[gL_ (by simpa using hn),zr_ hn,zr_ oM]
   ·subst hn;rw[gR_ (by simp),zr_ hk,List.length_range,Nat.sub_self];rfl
   rw[gR_ (by simp;omega),List.length_range];obtain⟨m,rfl⟩:∃m,n=k+1+m:=⟨n-(k+1),by omega⟩;rw[show k+1+m-k=m+1 by omega,List.getElem?_cons_succ,gM_]
   by_cases hm:k+1+m<r.length
   ·rw[zr_ hm,zr_ oM];show _=some (m+(k+1));rw[Nat.add_comm]
   rw[gN_ (by simpa using hm),gN_ (by simp;omega)];rfl
  unfold jh;rw[d,List.map_append,lQ_,List.map_cons];exact⟨_,Z⟩
 | r::l,t+1,s,k,row,h,hk=>by
  obtain⟨x,hx⟩:=yq (l:=l) (t:=t) (s:=s+1) (by simpa using h) hk;refine⟨x,?_⟩;rw[List.take_succ_cons];show _++jh l (s+1)=(_++jh (l.take t) (s+1))++_++_;rw[hx,show s+1+t+1=s+(t+1)+1 by omega];simp only[lQ_]
theorem LD {t k:Nat} {row:List cm} {e:cm} (B:dC g) (h:tg g t k) (u:g.threads[t]? =some row) (z:row[k]? =some e) (hb:BH g t k e=true):Fk g= .ofNat (iH g g.init.length t k).length:=by
 unfold Fk tg at*;obtain⟨r,A⟩:=yq (s:=0) u (gA.1 z).1;rw[nA_] at A
 have d:gu g=iH g g.init.length t k++⟨.ofNat (t+1),.ofNat k⟩::r:=by
  unfold gu iH;rw[A];simp only[lQ_]
 rw[d,Ej h (by rw[HB B u z];exact hb),nA_]
def zm (n:Nat) (R:Rn):Int:=eR (fun i=>R i i) (List.range n) 0
theorem Nt {n i:Nat} {R:Rn} (hi:i<n) (h:R i i=true) (hb:∀j,j<i->R j j=false):zm n R= .ofNat i:=by
 unfold zm
 have:=tN (p:=fun i=>R i i) (l:=List.range n) (i:=0) (n:=i) (zr_ hi) h fun k y hk hy=>by
  rw[zr_ oM] at hy;cases hy;exact hb _ hk
 rw[nA_] at this;exact this
theorem PX {n:Nat} {R:Rn} (hb:∀j,j<n->R j j=false):dH (zm n R) 0=true:=by
 unfold zm;rw[qh,List.any_eq_false.2 fun x hx=>by rw[hb x<|List.mem_range.1 hx];exact Bool.false_ne_true];rfl
theorem OR {a b:Nat} (d:a<nV g) (hb:b<nV g) (hne:a≠b) (h1:AJ g a b=true) (u:sM g b a=true):Jl g=true:=by
 unfold Jl;refine List.any_eq_true.2 ⟨(a,b),ow.2 ⟨d,hb,?_⟩,?_⟩
 ·unfold uG mP;rw[h1,u];rfl
 show cL (F (.ofNat a) (.ofNat b))=true;rw[eW,decide_eq_false hne];rfl
theorem OS (h:∀a b,a<nV g->b<nV g->a≠b->AJ g a b=true->sM g b a=false):Jl g=false:=by
 unfold Jl;refine List.any_eq_false.2 fun p hp he=>?_
 obtain⟨a,b⟩:=p;obtain⟨h1,u,d⟩:=ow.1 hp;unfold uG mP at d;rw[bA_] at d
 have hne:a≠b:=by
  rintro rfl;have he:cL (F (.ofNat a) (.ofNat a))=true:=he;rw[eW,decide_eq_true Z] at he;cases he
 rw[h a b h1 u hne d.1] at d;exact Bool.noConfusion d.2
end
section
variable {g:XG}
theorem xM {a b:Nat}:F (.ofNat a) (.ofNat b)=true↔a=b:=by rw[eW];simp
def yf (g:XG) (p:Nat->Bool) (n:Nat):Bool:=F (eu g n).kind 3 && p (fB g n).toNat
def iR (g:XG) (p:Nat->Bool):Nat->Bool:=fun n=>p n || yf g p n
structure Dw (g:XG) (w:Nat) (p:Nat->Bool):Prop where
 at_:p w=true
 sound:∀k,k<nV g->p k=true->Sq g w k
theorem Si {w:Nat}:Dw g w fun n=>decide (n=w):=⟨by simp,fun k _ h=>by
 have e:k=w:=by simpa using h
 subst e;exact .base⟩
theorem Qc {w:Nat} (hw:w<nV g):bL (nV g) (fun n=>decide (n=w))=2 ^ w:=by
 have:=km (n:=nV g) (fun _=>false) hw;rw[kq,Nat.zero_or] at this;rw[this];exact jq fun k _=>(Bool.false_or _).symm
theorem Qe (u:dC g) {w:Nat} {p:Nat->Bool} (h:Dw g w p):Dw g w (iR g p):=by
 refine⟨by unfold iR;rw[h.at_];rfl,fun k hk hp=>?_⟩;unfold iR yf at hp;cases h1:p k with
 | true=>exact h.sound k hk h1
 | false=>
  rw[h1,Bool.false_or,bA_] at hp;obtain⟨f,hf,d,_⟩:=jL u hk (kW hp.1);rw[d] at hp;exact .step hk hp.1 d<|h.sound f hf hp.2
theorem JC {p:Nat->Bool}:bL (nV g) p ||| bL (nV g) (yf g p)=bL (nV g) (iR g p):=pN ..
theorem JD {p:Nat->Bool} (h:bL (nV g) p≠bL (nV g) (iR g p)):gL (nV g) p<gL (nV g) (iR g p):=by
 refine(filter_lt fun x _ hx=>by unfold iR;rw[hx];rfl).2 ?_;refine zo_ fun d=>h (jq fun j hj=>?_)
 cases hp:p j with
 | true=>unfold iR;rw[hp];rfl
 | false=>
  cases u:iR g p j with
  | false=>rfl
  | true=>exact absurd ⟨j,List.mem_range.2 hj,hp,u⟩ d
theorem Qd (C:dC g) {w:Nat} {p:Nat->Bool} (hw:w<nV g) (h:Dw g w p) (d:bL (nV g) p=bL (nV g) (iR g p)):bL (nV g) p=bL (nV g) (mR g w):=by
 refine jq fun k hk=>?_
 have u:∀{k},Sq g w k->k<nV g->p k=true:=fun E=>by
  induction E with
  | base=>exact fun _=>h.at_
  | @step i f hi z hf _ ih=>
   intro _;obtain⟨f',B,A,_⟩:=jL C hi (kW z);obtain rfl:f=f':=by rw[hf] at A;exact iJ_ A
   rw[qU d hi];unfold iR yf;rw[z,hf,show(Int.ofNat f).toNat=f from Z,ih B];cases p i<;>rfl
 cases hb:mR g w k with
 | true=>exact u (ug.1 hb) hk
 | false=>
  cases hp:p k with
  | false=>rfl
  | true=>rw[ug.2<|h.sound k hk hp] at hb;cases hb
theorem xH {w:Nat}:jt g w=(bz (eu g w) && !(F (eu g w).order 1)):=by unfold jt;cases bz (eu g w)<;>rfl
theorem xG {w b:Nat}:gH g w b=(cz (eu g b) && (!(F (eu g b).order 1) && mR g w (fB g b).toNat)):=by
 unfold gH;cases cz (eu g b)<;>cases F (eu g b).order 1<;>rfl
theorem pV {w r:Nat}:fV g w r=(pJ g r && (F (.ofNat r) (.ofNat w) || (F (eu g r).kind 4 && jT g r w))):=by
 unfold fV;cases pJ g r<;>cases F (.ofNat r) (.ofNat w)<;>cases F (eu g r).kind 4<;>rfl
def I6 (g:XG) (s:Nat->Bool) (a:Nat):Bool:=s a || (F (eu g a).kind 4 && (List.range<|nV g).any fun b=>s b && jT g b a)
theorem HC {s:Nat->Bool} {a:Nat}:(bL (nV g) s &&& bL (nV g) (fun b=>jT g b a))≠0↔((List.range<|nV g).any fun b=>s b && jT g b a)=true:=by
 rw[Ae];constructor
 ·intro h;refine zo_ fun d=>h ?_
  rw[<-kq (nV g)];refine jq fun j hj=>?_
  cases hb:(s j && jT g j a) with
  | false=>rfl
  | true=>exact absurd (List.any_eq_true.2 ⟨j,List.mem_range.2 hj,hb⟩) d
 intro h h0;obtain⟨j,hj,hb⟩:=List.any_eq_true.1 h;rw[<-kq (nV g)] at h0;rw[qU h0<|List.mem_range.1 hj] at hb;cases hb
def qL (g:XG) (w a:Nat):Bool:=rM g a && I6 g (gH g w) a
theorem CZ {w a:Nat} (A:a<nV g):qL g w a=true↔∃b,b<nV g/\gH g w b=true/\fQ g b a=true:=by
 have u:∀b,fQ g b a=(rM g a && (F (.ofNat a) (.ofNat b) || (F (eu g a).kind 4 && jT g b a))):=fun b=>by
  unfold fQ;cases rM g a<;>cases F (.ofNat a) (.ofNat b)<;>cases F (eu g a).kind 4<;>rfl
 unfold qL I6;rw[bA_,Bool.or_eq_true,bA_];constructor
 ·rintro ⟨h1,h | ⟨d,B⟩⟩
  ·exact⟨a,A,h,by rw[u,h1,xM.2 Z];rfl⟩
  obtain⟨b,hb,z⟩:=List.any_eq_true.1 B;rw[bA_] at z;exact⟨b,List.mem_range.1 hb,z.1,by rw[u,h1,d,z.2];cases F (.ofNat a) (.ofNat b)<;>rfl⟩
 rintro ⟨b,hb,h1,d⟩;rw[u,bA_,Bool.or_eq_true,bA_] at d;refine⟨d.1,?_⟩;rcases d.2 with h | h
 ·obtain rfl:=xM.1 h;exact .inl h1
 exact .inr ⟨h.1,List.any_eq_true.2 ⟨b,List.mem_range.2 hb,by rw[h1,h.2];rfl⟩⟩
theorem NO {w a:Nat} (h:bL (nV g) (gH g w)=0) (d:a<nV g):qL g w a=false:=by
 cases u:qL g w a with
 | false=>rfl
 | true=>
  obtain⟨b,hb,h1,_⟩:=(CZ d).1 u;rw[<-kq (nV g)] at h;rw[qU h hb] at h1;cases h1
def IG (g:XG) (k:Nat):Rn:=fun r a=>(List.range k).any fun w=>jt g w && (fV g w r && qL g w a)
def zZ (g:XG) (k i:Nat):Rn:=fun r a=>IG g k r a || (decide (r<i) && (fV g k r && qL g k a))
theorem zu {k r a:Nat}:IG g (k+1) r a=(IG g k r a || (jt g k && (fV g k r && qL g k a))):=by
 unfold IG;rw[List.range_succ,List.any_append,List.any_cons,List.any_nil,Bool.or_false]
theorem Fb {k:Nat} (h:jt g k=false):bC (nV g) (IG g (k+1))=bC (nV g) (IG g k):=cF fun r a _ _=>by rw[zu,h];simp
theorem NL {k:Nat} (h:bL (nV g) (gH g k)=0):bC (nV g) (IG g (k+1))=bC (nV g) (IG g k):=cF fun r a _ d=>by rw[zu,NO h d];simp
theorem NM {k:Nat}:bC (nV g) (zZ g k 0)=bC (nV g) (IG g k):=cF fun r a _ _=>by unfold zZ;simp
theorem CX {k i:Nat} (h:fV g k i=false):bC (nV g) (zZ g k (i+1))=bC (nV g) (zZ g k i):=cF fun r a _ _=>by
 unfold zZ
 by_cases d:r=i
 ·subst d;rw[h];simp
 rw[show decide (r<i+1)=decide (r<i) from decide_eq_decide.2 oM]
theorem IH {k i:Nat} (h:fV g k i=true):(bC (nV g)<|zZ g k i).set i (bL (nV g) (zZ g k i i) ||| bL (nV g) (qL g k))=bC (nV g) (zZ g k (i+1)):=by
 rw[pN,lX];refine cF fun r a _ _=>?_
 by_cases d:r=i
 ·subst d;unfold zZ;simp[h]
 have:(r == i)=false:=by simpa using d
 rw[this];unfold zZ;rw[show decide (r<i+1)=decide (r<i) from decide_eq_decide.2 oM];rfl
theorem Qh {k:Nat} (h:jt g k=true):bC (nV g) (zZ g k<|nV g)=bC (nV g) (IG g (k+1)):=cF fun r a d _=>by
 rw[zu,h];unfold zZ;simp[d]
theorem Qg:bC (nV g) (IG g<|nV g)=bC (nV g) (vr g):=cF fun r a z d=>by
 rw[zd_,II];unfold IG;rw[List.any_eq_true];constructor
 ·rintro ⟨w,hw,h⟩;rw[bA_,bA_] at h;obtain⟨b,hb,h1,u⟩:=(CZ d).1 h.2.2;exact⟨w,b,List.mem_range.1 hw,hb,z,d,h.1,h1,h.2.1,u⟩
 rintro ⟨w,b,hw,hb,_,_,h1,u,A,B⟩;exact⟨w,List.mem_range.2 hw,by rw[h1,A,(CZ d).2 ⟨b,hb,u,B⟩];rfl⟩
end
section
variable {g:XG}
theorem GA {l:List α} (h:l.Nodup) {i:Nat} {a:α} (hi:l[i]? =some a) (hj:l[j]? =some a):i=j:=by
 rcases Nat.lt_trichotomy i j with hh | hh | hh
 ·exact absurd Z<|yL h hh hi hj
 ·exact hh
 exact absurd Z<|yL h hh hj hi
theorem J6 (u:dC g) {r:List bS} (z:g.order[ln]? =some r):r.Nodup:=by
 have hf:=qu (x:=ln) (loc:=0) z (nA_ _);have hn:(nH g.order 0).Nodup:=u.perm.nodup_iff.1 pz;have d:(fT ln r).Nodup:=by rw[<-hf];exact hn.filter _
 exact oW _ d
theorem AX (B:dC g) {b:Nat} {r:List bS} (A:g.order[ln]? =some r) (hb:r[b]? =some id):∃n,n<nV g/\(gu g)[n]? =some id/\eT g n=id/\F id.bH 0=false/\fI g n= .ofNat (b+1):=by
 obtain⟨t,k,row,e,rfl,E,G,hw,hl⟩:=AY B A (gB_ hb);have d:dV g ⟨.ofNat (t+1),.ofNat k⟩=some e:=by rw[jJ,E];exact G
 obtain⟨n,hn⟩:=gO_ (Ci d<|xO d);have u:n<nV g:=(gA.1 hn).1;have z:eT g n=⟨.ofNat (t+1),.ofNat k⟩:=zs_ ((eE u).symm.trans hn);have C:eu g n=e:=zs_ ((Lq u).symm.trans (by rw[z];exact d));refine⟨n,u,hn,z,Z,?_⟩;unfold fI;rw[z,C,hl,show F (⟨.ofNat (t+1),.ofNat k⟩:bS).bH 0=false from Z];have I:sV g (.ofNat ln)=r:=by unfold sV;rw[show(Int.ofNat ln).toNat=ln from Z,A];rfl
 rw[I]
 have:=tN (p:=fun x:bS=>cC x.ints (⟨.ofNat (t+1),.ofNat k⟩:bS).ints) (l:=r) (i:=0) hb (lU.2 Z) fun q y hq hy=>by
  cases K:cC y.ints (⟨.ofNat (t+1),.ofNat k⟩:bS).ints with
  | false=>rfl
  | true=>
   rw[lU.1 K] at hy;have:=GA (J6 B A) hy hb;omega
 rw[nA_] at this;show(bif dH (eR _ r 0) 0 then(-1:Int) else wr .i64 (Int.add (eR _ r 0) 1))=_;rw[this,show dH (.ofNat b) 0=false by rw[show(0:Int)= .ofNat 0 from Z,lK];simp];have hbl:=(gA.1 hb).1;have:=mz (fl.2 B) r (gB_ A);exact aX oM
def pE (g:XG) (a b:Nat):List bS:=(g.order.take a).flatten++((g.order[a]?).getD []).take b
open Classical in
def sY (g:XG) (a b n:Nat):Int:=bif F (eT g n).bH 0 then 0 else if eT g n∈pE g a b then fI g n else-1
def gj (g:XG) (a b:Nat):List Int:=(List.range<|nV g).map (sY g a b)
theorem mA {a b:Nat}:(gj g a b).length=nV g:=by unfold gj;simp
theorem A2 {a b n:Nat} (h:n<nV g):(gj g a b)[n]? =some (sY g a b n):=by unfold gj;simp[h]
theorem GX (E:dC g) {a b n:Nat} {r:List bS} (B:g.order[a]? =some r) (hb:r[b]? =some id) (hn:n<nV g) (d:eT g n=id):(gj g a b).set n (.ofNat (b+1))=gj g a (b+1):=by
 have hbl:=(gA.1 hb).1
 have C:pE g a (b+1)=pE g a b++[id]:=by
  unfold pE;rw[B,lQ_];show _++r.take (b+1)=_++(r.take b++[id]);rw[zb_,hb];rfl
 obtain⟨n',u,_,z,G,hp⟩:=AX E B hb;have A:n'=n:=tM (eE u) (by rw[eE hn,d,z]);subst A;refine zf_ fun k=>?_
 by_cases hk:k<nV g
 ·rw[List.getElem?_set,A2 hk,A2 hk,mA]
  by_cases he:n'=k
  ·subst he;rw[if_pos Z,if_pos hk];unfold sY;rw[C,d,G,if_pos<|List.mem_append_right _<|List.mem_singleton.2 Z,<-hp];rfl
  rw[if_neg he];unfold sY;rw[C];have hne:eT g k≠id:=fun h=>he (tM (eE u) (by rw[eE hk,h,d]))
  have:(eT g k∈pE g a b++[id])↔eT g k∈pE g a b:=by
   rw[List.mem_append,List.mem_singleton];exact⟨fun h=>h.elim (fun h=>h) fun h=>absurd h hne,.inl⟩
  by_cases hm:eT g k∈pE g a b
  ·rw[if_pos hm,if_pos<|this.2 hm]
  rw[if_neg hm,if_neg fun h=>hm (this.1 h)]
 rw[gN_ (by rw[zg_,mA];omega),gN_ (by rw[mA];omega)]
theorem J9 {a:Nat} {r:List bS} (d:g.order[a]? =some r):pE g a r.length=pE g (a+1) 0:=by
 unfold pE;rw[d,List.take_zero,zk_,zb_,d];show _++r.take r.length=_;rw[List.take_length];simp
theorem EJ {a:Nat} {r:List bS} (d:g.order[a]? =some r):gj g a r.length=gj g (a+1) 0:=by
 unfold gj sY;rw[J9 d]
theorem GW:gj g 0 0=(List.range<|nV g).map fun n=>bif F (eT g n).bH 0 then(0:Int) else-1:=by
 unfold gj;refine List.map_congr_left fun n _=>?_
 unfold sY pE;simp
theorem GV (A:dC g) {a:Nat} (B:g.order.length<=a):gj g a 0=(List.range<|nV g).map (fI g):=by
 unfold gj;refine List.map_congr_left fun n hn=>?_
 have hn:=List.mem_range.1 hn;unfold sY pE;rw[List.take_zero,zk_,tL_ B];rcases gh hn with ⟨x,v,h1,_⟩ | ⟨t,k,row,e,h1,C,E,G⟩
 ·unfold fI;rw[h1];rfl
 rw[show F (eT g n).bH 0=false by rw[h1];rfl,cond_false]
 by_cases hm:eT g n∈g.order.flatten
 ·rw[if_pos hm]
 rw[if_neg hm];rcases qy A hn with ⟨hw,_⟩ | ⟨_,hp⟩
 ·have d:bz e=true:=by rw[<-G];exact hw
  have u:((⟨.ofNat (t+1),.ofNat k⟩:bS).ints,e.loc)∈gX g.threads 0:=kH.2 ⟨t,k,row,e,C,E,d,by rw[nA_];rfl,Z⟩;obtain⟨ln,r,id,I,K,L,k4⟩:=jS.1 (A.perm.mem_iff.1 u);have z:id=eT g n:=by rw[h1];exact(om L).symm
  exact absurd (List.mem_flatten.2 ⟨r,gB_ I,by rw[<-z];exact K⟩) hm
 exact hp.symm
theorem LK (d:dC g) {n:Nat} (hn:n<nV g) (u:cz (eu g n)=true):∃f,f<nV g/\fB g n= .ofNat f/\(gu g)[f]? =some (Og g<|eT g n):=by
 obtain⟨f,h1,z,A,_⟩:=jL d hn u;exact⟨f,h1,z,by rw[eE h1,A]⟩
theorem sS {n:Nat} (d:cz (eu g n)=false):fB g n= -1:=by unfold fB;rw[d];rfl
theorem D7 {n:Nat} (hn:n<nV g) (h:F (eT g n).bH 0=true):cz (eu g n)=false:=by
 rcases gh hn with ⟨x,v,_,_,d⟩ | ⟨t,k,_,_,h1,_⟩
 ·rw[d];rfl
 rw[h1] at h;exact Bool.noConfusion (show false=true from h)
end
variable {S fv iv pv:V}
structure lA (K:KP) (g:XG) (b:Nat) (iv ev fv pv:V):Prop where
 row:K b (.row [iv,ev,fv,pv] 266 false)
 ids:bO K 2 dK (gu g) iv
 jv:bO K 5 gG (zR g) ev
 from_:bO K 1 ek ((List.range<|nV g).map<|fB g) fv
 place:bO K 1 ek ((List.range<|nV g).map<|fI g) pv
theorem lA.mono {K K':KP} {b:Nat} {iv ev fv pv:V} (h:lA K g b iv ev fv pv) (hk:KP.le K K'):lA K' g b iv ev fv pv:=⟨hk _ _ h.row,h.ids.mono hk fun _ _ h=>h,h.jv.mono hk fun _ _ h=>h,h.from_.mono hk fun _ _ h=>h,h.place.mono hk fun _ _ h=>h⟩
theorem qG {n i:Nat} {f:Nat->Int} (h:i<n):((List.range n).map f)[i]? =some (f i):=by simp[h]
theorem EF (N:Plain G) {b:Nat} {Q ev R:V} (d:K b (.row [Q,ev,R,S] 266 false)) (u:bO K 5 gG (zR g) ev) {i:Nat} (hi:i<nV g) (ar:H O K L):
  Ca G K L 222 [.ptr b 0,nI i] O <| .bool (cz<|eu g i):=by
 refine V9 N Tryz.func222 Z<|Vw 8 Z<|J Z (cO Z) Z<|J Z (W3 1 Z) Z<|J Z (W4 Z (ar.cg d) Z) Z<|vQ 1 Z<|WV (e:=38) (m:=5) u (eQ hi) Z Z Z Z (fun am aa A ab B=>?_);obtain rfl:=B;refine de A Z Z Z (k:=0) U (lb Z) (fun _=>Z) (fun ao C=>?_);refine J Z (W7 ar C Z Z) Z<|vQ 1 Z<|ky Z (an Z) (fun z=>?_) (fun z=>?_)
 ·refine VA 14 Z ?_;exact aA Z Z ⟨cB (by unfold cz;simp only[z,ct,cf]<;>rfl),ar⟩
 refine vQ 1 Z<|J Z (cO Z) Z<|J Z (W3 1 Z) Z<|J Z (W4 Z (ar.cg d) Z) Z<|vQ 1 Z<|WV (e:=38) (m:=5) u (eQ hi) Z Z Z Z (fun ap ac E ak I=>?_);obtain rfl:=I;refine de E Z Z Z (k:=0) U (lb Z) (fun _=>Z) (fun aE M=>?_);refine J Z (W7 ar M Z Z) Z<|VA 6 Z ?_;exact aA Z Z ⟨cB (by unfold cz;simp only[z,ct,cf]<;>rfl),ar⟩
theorem Pt (d:Plain G) {b:Nat} {ev:V} (hv:lA K g b iv ev fv pv) {i:Nat} (hi:i<nV g) (ar:H O K L):
  EC G 222 [.ptr b 0,nI i] O fun u O'=>u= .bool (cz<|eu g i)/\H O' K L:=EF d hv.row hv.jv hi ar
theorem MS (I:Plain G) {b:Nat} {ev:V} (hv:lA K g b iv ev fv pv) {i:Nat} (hi:i<nV g) (ar:H O K L):
  Ca G K L 227 [.ptr b 0,nI i] O <| .bool (bz<|eu g i):=by
 refine V9 I Tryz.func227 Z<|Vw 8 Z<|J Z (cO Z) Z<|J Z (W3 1 Z) Z<|J Z (W4 Z (ar.cg hv.row) Z) Z<|vQ 1 Z<|WV (e:=38) (m:=5) hv.jv (eQ hi) Z Z Z Z (fun am aa u ab z=>?_);obtain rfl:=z;refine de u Z Z Z (k:=0) U (lb Z) (fun _=>Z) (fun ao A=>?_);refine J Z (W7 ar A Z Z) Z<|vQ 1 Z<|ky Z (an Z) (fun d=>?_) (fun d=>?_)
 ·refine VA 14 Z ?_;exact aA Z Z ⟨cB (by unfold bz;simp only[d,ct,cf]<;>rfl),ar⟩
 refine vQ 1 Z<|J Z (cO Z) Z<|J Z (W3 1 Z) Z<|J Z (W4 Z (ar.cg hv.row) Z) Z<|vQ 1 Z<|WV (e:=38) (m:=5) hv.jv (eQ hi) Z Z Z Z (fun ap ac B ak C=>?_);obtain rfl:=C;refine de B Z Z Z (k:=0) U (lb Z) (fun _=>Z) (fun aE E=>?_);refine J Z (W7 ar E Z Z) Z<|VA 6 Z ?_;exact aA Z Z ⟨cB (by unfold bz;simp only[d,ct,cf]<;>rfl),ar⟩
theorem wT (A:Plain G) {b:Nat} {ev:V} (hv:lA K g b iv ev fv pv) {i:Nat} (hi:i<nV g) (ar:H O K L):
  Ca G K L 235 [.ptr b 0,nI i] O <| .bool (F (eu g i).kind 4):=by
 refine V9 A Tryz.func235 Z<|Vw 8 Z<|J Z (cO Z) Z<|J Z (W3 1 Z) Z<|J Z (W4 Z (ar.cg hv.row) Z) Z<|vQ 1 Z<|WV (e:=38) (m:=5) hv.jv (eQ hi) Z Z Z Z (fun ac aa d ab u=>?_);obtain rfl:=u;refine de d Z Z Z (k:=0) U (lb Z) (fun _=>Z) (fun ak z=>?_);refine J Z (W7 ar z Z Z) Z<|VA 5 Z ?_;exact aA Z Z ⟨cB (Z),ar⟩
theorem GO (E:Plain G) {b:Nat} {ev:V} (hv:lA K g b iv ev fv pv) {i:Nat} (hi:i<nV g) (ar:H O K L):
  Ca G K L 232 [.ptr b 0,nI i] O <| .bool (rM g i):=by
 refine V9 E Tryz.func232 Z<|UE 9 Z<|J Z (cO Z) Z<|J Z (W3 1 Z) Z<|J Z (W4 Z (ar.cg hv.row) Z) Z<|vQ 1 Z<|WV (e:=38) (m:=5) hv.jv (eQ hi) Z Z Z Z (fun ac aa A ab B=>?_);obtain rfl:=B;refine de A Z Z Z (k:=2) U (lb Z) (fun _=>Z) (fun ak C=>?_);refine J Z (W7 ar C Z Z) Z<|UI 3 Z<|UE 3 Z<|ky Z (ay Z Z Z) (fun d=>?_) (fun d=>?_)
 ·refine UM 13 Z<|aP<|aH (?_);exact aA Z Z ⟨cB (by unfold rM;simp only[d,ct,cf]<;>rfl),ar⟩
 refine UK 6 Z<|ky Z (ay Z Z Z) (fun u=>?_) (fun u=>?_)
 ·refine UM 13 Z<|aP<|aH (?_);exact aA Z Z ⟨cB (by unfold rM;simp only[d,u,ct,cf]<;>rfl),ar⟩
 refine Vz 5 Z<|ky Z (ay Z Z Z) (fun z=>?_) (fun z=>?_)
 ·refine VA 10 Z<|aP<|aH (?_);exact aA Z Z ⟨cB (by unfold rM;simp only[d,u,z,ct,cf]<;>rfl),ar⟩
 refine UL 6 Z<|Wf 6 Z ?_;exact aA Z Z ⟨cB (by unfold rM;simp only[d,u,z,ct,cf]<;>rfl),ar⟩
theorem GP (E:Plain G) {b:Nat} {ev:V} (hv:lA K g b iv ev fv pv) {i:Nat} (hi:i<nV g) (ar:H O K L):
  Ca G K L 234 [.ptr b 0,nI i] O <| .bool (pJ g i):=by
 refine V9 E Tryz.func234 Z<|UE 9 Z<|J Z (cO Z) Z<|J Z (W3 1 Z) Z<|J Z (W4 Z (ar.cg hv.row) Z) Z<|vQ 1 Z<|WV (e:=38) (m:=5) hv.jv (eQ hi) Z Z Z Z (fun ac aa A ab B=>?_);obtain rfl:=B;refine de A Z Z Z (k:=2) U (lb Z) (fun _=>Z) (fun ak C=>?_);refine J Z (W7 ar C Z Z) Z<|UI 3 Z<|UE 3 Z<|ky Z (ay Z Z Z) (fun d=>?_) (fun d=>?_)
 ·refine UM 13 Z<|aP<|aH (?_);exact aA Z Z ⟨cB (by unfold pJ;simp only[d,ct,cf]<;>rfl),ar⟩
 refine UK 6 Z<|ky Z (ay Z Z Z) (fun u=>?_) (fun u=>?_)
 ·refine UM 13 Z<|aP<|aH (?_);exact aA Z Z ⟨cB (by unfold pJ;simp only[d,u,ct,cf]<;>rfl),ar⟩
 refine Vz 5 Z<|ky Z (ay Z Z Z) (fun z=>?_) (fun z=>?_)
 ·refine VA 10 Z<|aP<|aH (?_);exact aA Z Z ⟨cB (by unfold pJ;simp only[d,u,z,ct,cf]<;>rfl),ar⟩
 refine UL 6 Z<|Wf 6 Z ?_;exact aA Z Z ⟨cB (by unfold pJ;simp only[d,u,z,ct,cf]<;>rfl),ar⟩
theorem MO (M:Plain G) {b:Nat} {ev:V} (hv:lA K g b iv ev fv pv) {i:Nat} (hi:i<nV g) (hq:q<nV g) (ar:H O K L):
  Ca G K L 224 [.ptr b 0,nI i,nI q] O <| .bool (sg g i q):=by
 refine V9 M Tryz.func224 Z<|Vv 6 Z<|aL (l:=zp [0,1,2,3,4,5,6,7,8,9,10,11,12,13,14,15,16,17,18,19,20,21,22,23,24,25,26,27,28,29]) U U<|Wj 2 Z<|eL Z Z (W2 Z Z Z) (fun _=>Z) (wT M hv hi ar) (fun O ar=>?_);refine⟨aT,?_⟩;refine ah Z Z (dW Z) Z<|e8 Z Z (an Z) (fun _=>Z) (fun d=>?_) (fun d=>?_)
 ·refine Wj 2 Z<|eL Z Z (W2 Z Z Z) (fun _=>Z) (wT M hv hq ar) (fun O ar=>?_);refine⟨aT,?_⟩;refine ah Z Z (dW Z) Z<|wQ 1 Z<|e8 Z Z (an Z) (fun _=>Z) (fun u=>?_) (fun u=>?_)
  ·refine wQ 1 Z<|ah Z Z (cO Z) Z<|ah Z Z (W3 1 Z) Z<|ah Z Z (W4 Z (ar.cg hv.row) Z) Z<|wQ 1 Z<|WW (e:=38) (m:=5) hv.jv (eQ hi) Z Z Z Z Z (fun am aa z ab A=>?_);obtain rfl:=A;refine dN z Z Z Z Z (k:=1) U (lb Z) (fun _=>Z) (fun ao B=>?_);refine ah Z Z (W7 ar B Z Z) Z<|wQ 1 Z<|ah Z Z (cO Z) Z<|ah Z Z (W3 1 Z) Z<|ah Z Z (W4 Z (ar.cg hv.row) Z) Z<|wQ 1 Z<|WW (e:=38) (m:=5) hv.jv (eQ hq) Z Z Z Z Z (fun ap ac C ak E=>?_);obtain rfl:=E;refine dN C Z Z Z Z (k:=1) U (lb Z) (fun _=>Z) (fun aE I=>?_);refine ah Z Z (W7 ar I Z Z) Z<|VC 6 Z ?_;exact aA Z Z ⟨cB (by unfold sg;rw[show F (eu g i).kind 4=false from cY d,show F (eu g q).kind 4=false from cY u];rfl),ar⟩
  refine VC 22 Z ?_;exact aA Z Z ⟨cB (by unfold sg;rw[show F (eu g i).kind 4=false from cY d,show F (eu g q).kind 4=true from cD u];rfl),ar⟩
 refine VC 28 Z ?_;exact aA Z Z ⟨cB (by unfold sg;rw[show F (eu g i).kind 4=true from cD d];rfl),ar⟩
theorem R1 (I:Plain G) {b:Nat} {ev:V} (hv:lA K g b iv ev fv pv) {i:Nat} (hi:i<nV g) (hq:q<nV g) (ar:H O K L):
  Ca G K L 185 [.ptr b 0,nI i,nI q] O <| .bool (jT g i q):=by
 refine V9 I Tryz.func185 Z (Vv 6 Z (aL (l:=[(0,[]),(1,[]),(2,[]),(3,[]),(4,[]),(5,[]),(6,[]),(7,[]),(8,[]),(9,[]),(10,[]),(11,[]),(12,[]),(13,[]),(14,[]),(15,[]),(16,[10,13]),(17,[])]) U U<|wQ 1 Z<|ah Z Z (cO Z) Z<|ah Z Z (W3 0 Z) Z<|ah Z Z (W4 Z (ar.cg hv.row) Z) Z<|wQ 1 Z<|WW (e:=87) (m:=2) hv.ids (eE hi) Z Z Z Z Z (fun am aa B ab C=>?_)));obtain rfl:=C;refine ah Z Z (W8 ar B Z Z) Z<|wQ 1 Z<|ah Z Z (cO Z) Z<|ah Z Z (W3 0 Z) Z<|ah Z Z (W4 Z (ar.cg hv.row) Z) Z<|wQ 1 Z<|WW (e:=87) (m:=2) hv.ids (eE hq) Z Z Z Z Z (fun ao ac z ak E=>?_);obtain rfl:=E;refine ah Z Z (W8 ar z Z Z) Z<|pC ar Z Z (W6 (cs:=[D,D])) (fun _=>Z) (fun O b1 ar=>?_);refine pC ar Z Z (W6 (cs:=[D,D])) (fun _=>Z) (fun O b2 ar=>?_);refine nJ ar Z Z (W9 Z Z Z ar.g1 Z) Z (fun O ar=>?_);refine⟨(bj (bx Z Z Z Z Z (W4 Z (ar.cg hv.row) Z) hv.ids.dQ)<|bj (bx Z Z Z Z Z (W8 ar z Z Z)<|gT<|cP (fe _ _)<|cP (fe _ _) gf) aT),?_⟩;refine ia ar Z Z (W9 Z Z Z ar.g0 Z) Z (fun O ar=>?_);refine⟨aT,?_⟩;refine VB 2 Z<|VE ar 5 [0,0] Z Z<|ky Z (an Z) (fun d=>?_) (fun d=>?_)
 ·refine Wk ar 3 [0,1] Z Z<|ky Z (an Z) (fun u=>?_) (fun u=>?_)
  ·refine VA 18 Z ?_;exact aA Z Z ⟨cB (by rw[<-UC hi hq,show F (eT g q).bH 0=false from cY d,show F (eT g i).bH 0=true from u];rfl),ar.pop.pop⟩
  refine Wk ar 5 [0,1,0,0] Z Z<|ky Z (an Z) (fun A=>?_) (fun A=>?_)
  ·refine VG ar 12 [1,1,1,0] Z Z ?_;exact aA Z Z ⟨cB (by rw[<-UC hi hq,show F (eT g q).bH 0=false from cY d,show F (eT g i).bH 0=false from u,show F (eT g i).bH (eT g q).bH=true from A];rfl),ar.pop.pop⟩
  refine VA 12 Z ?_;exact aA Z Z ⟨cB (by rw[<-UC hi hq,show F (eT g q).bH 0=false from cY d,show F (eT g i).bH 0=false from u,show F (eT g i).bH (eT g q).bH=false from A];rfl),ar.pop.pop⟩
 refine VA 22 Z ?_;exact aA Z Z ⟨cB (by rw[<-UC hi hq,show F (eT g q).bH 0=true from cD d];rfl),ar.pop.pop⟩
theorem Vt (z:Plain G) {b:Nat} {ev:V} (hv:lA K g b iv ev fv pv) {i:Nat} (hi:i<nV g) (hq:q<nV g) (ar:H O K L):
  Ca G K L 186 [.ptr b 0,nI i,nI q] O <| .bool (tf g i q):=by
 refine V9 z Tryz.func186 Z<|Vw 8 Z<|J Z (cO Z) Z<|J Z (W3 2 Z) Z<|J Z (W4 Z (ar.cg hv.row) Z) Z<|vQ 1 Z<|WV (e:=3) (m:=1) hv.from_ (qG hq) Z Z Z Z (fun ac aa d ab u=>?_);obtain rfl:=u;refine J Z (W7 ar d Z Z) Z<|VA 6 Z ?_;exact aA Z Z ⟨cB (Z),ar⟩
theorem Tv (N:Plain G) {b:Nat} {ev:V} (hv:lA K g b iv ev fv pv) (M:dC g) {i:Nat} (hi:i<nV g) (hq:q<nV g) (ar:H O K L):
  Ca G K L 187 [.ptr b 0,nI i,nI q] O <| .bool (rY g i q):=by
 refine V9 N Tryz.func187 Z<|Vv 6 Z<|aL (l:=zp [0,1,2,3,4,5,6,7,8,9,10,11,12,13,14,15,16,17,18,19,20,21,22,23,24,25,26,27,28,29,30,31]) U U<|wQ 1 Z<|ah Z Z (cO Z) Z<|ah Z Z (W3 3 Z) Z<|ah Z Z (W4 Z (ar.cg hv.row) Z) Z<|wQ 1 Z<|WW (e:=3) (m:=1) hv.place (qG hi) Z Z Z Z Z (fun ap aa z ab A=>?_);obtain rfl:=A;refine ah Z Z (W7 ar z Z Z) Z<|wQ 1 Z<|e8 Z Z (an Z) (fun _=>Z) (fun d=>?_) (fun d=>?_)
 ·refine Wj 3 Z<|eL Z Z (W2 Z Z Z) (fun _=>Z) (MO N hv hi hq ar) (fun O ar=>?_);refine⟨aT,?_⟩;refine wQ 1 Z<|e8 Z Z (an Z) (fun _=>Z) (fun u=>?_) (fun u=>?_)
  ·refine wQ 1 Z<|ah Z Z (cO Z) Z<|ah Z Z (W3 3 Z) Z<|ah Z Z (W4 Z (ar.cg hv.row) Z) Z<|wQ 1 Z<|WW (e:=3) (m:=1) hv.place (qG hi) Z Z Z Z Z (fun aE ac B ak C=>?_);obtain rfl:=C;refine ah Z Z (W7 ar B Z Z) Z<|wQ 1 Z<|ah Z Z (cO Z) Z<|ah Z Z (W3 3 Z) Z<|ah Z Z (W4 Z (ar.cg hv.row) Z) Z<|wQ 1 Z<|WW (e:=3) (m:=1) hv.place (qG hq) Z Z Z Z Z (fun a0 am E ao I=>?_);obtain rfl:=I;refine ah Z Z (W7 ar E Z Z) Z<|VC 6 Z ?_;exact aA Z Z ⟨cB (by rw[<-Va M hi hq,show dH (fI g i) 0=false from cY d,show sg g i q=true from u];rfl),ar⟩
  refine VC 20 Z ?_;exact aA Z Z ⟨cB (by rw[<-Va M hi hq,show dH (fI g i) 0=false from cY d,show sg g i q=false from u];rfl),ar⟩
 refine VC 26 Z ?_;exact aA Z Z ⟨cB (by rw[<-Va M hi hq,show dH (fI g i) 0=true from cD d];rfl),ar⟩
theorem Vs (Q:Plain G) {b:Nat} {ev:V} (hv:lA K g b iv ev fv pv) (z:dC g) {i:Nat} (hi:i<nV g) (hq:q<nV g) (ar:H O K L):
  Ca G K L 188 [.ptr b 0,nI i,nI q] O <| .bool (uF g i q):=by
 refine V9 Q Tryz.func188 Z<|Vw 10 Z<|ky Z (an Z) (fun u=>?_) (fun u=>?_)
 ·refine vQ 1 Z<|J Z (cO Z) Z<|J Z (W3 2 Z) Z<|J Z (W4 Z (ar.cg hv.row) Z) Z<|vQ 1 Z<|WV (e:=3) (m:=1) hv.from_ (qG hi) Z Z Z Z (fun am aa A ab B=>?_);obtain rfl:=B;refine J Z (W7 ar A Z Z) Z<|Wh 2 Z<|ky Z (an Z) (fun d=>?_) (fun d=>?_)
  ·refine Wh 2 Z<|J Z (cO Z) Z<|J Z (W3 2 Z) Z<|J Z (W4 Z (ar.cg hv.row) Z) Z<|vQ 1 Z<|WV (e:=3) (m:=1) hv.from_ (qG hi) Z Z Z Z (fun ao ac C ak E=>?_);obtain rfl:=E;refine J Z (W7 ar C Z Z) Z<|vQ 1 Z ?_
   obtain⟨f,N,I⟩:∃f,f<nV g/\fB g i= .ofNat f:=by
    cases M:cz (eu g i) with
    | true=>obtain⟨f,h1,R,_⟩:=jL z hi M;exact⟨f,h1,R⟩
    | false=>rw[sS M] at d;exact Bool.noConfusion (show false=true from d)
   refine kx (W2 Z Z Z) (by rw[I];exact Tv Q hv z N hq ar) (fun O ar=>?_);refine VA 5 Z ?_;exact aA Z Z ⟨cB (by rw[<-Vh z hi hq,show F (.ofNat i) (.ofNat q)=false from cY u,show dH (fB g i) 0=false from cY d,I];rfl),ar⟩
  refine VA 15 Z ?_;exact aA Z Z ⟨cB (by rw[<-Vh z hi hq,show F (.ofNat i) (.ofNat q)=false from cY u,show dH (fB g i) 0=true from cD d];rfl),ar⟩
 refine VA 25 Z ?_;exact aA Z Z ⟨cB (by rw[<-Vh z hi hq,show F (.ofNat i) (.ofNat q)=true from cD u];rfl),ar⟩
theorem Tw (u:Plain G) {b:Nat} {ev:V} (hv:lA K g b iv ev fv pv) {i:Nat} (hi:i<nV g) (hq:q<nV g) (ar:H O K L):
  Ca G K L 190 [.ptr b 0,nI i,nI q] O <| .bool (sU g i q):=by
 refine V9 u Tryz.func190 Z<|Vw 10 Z<|ky Z (an Z) (fun d=>?_) (fun d=>?_)
 ·refine Wh 3 Z<|kx (W2 Z Z Z) (MO u hv hi hq ar) (fun O ar=>?_);refine VA 5 Z ?_;exact aA Z Z ⟨cB (by rw[<-Tj,show F (.ofNat i) (.ofNat q)=false from cY d];rfl),ar⟩
 refine VA 9 Z ?_;exact aA Z Z ⟨cB (by rw[<-Tj,show F (.ofNat i) (.ofNat q)=true from cD d];rfl),ar⟩
variable {cl:Call} {so:Operand} {A:Rn} {va:V}
theorem wq {P:Program} {k:Bool} {ty:TypeId} {x:Nat} (h:j<64):pH P k .shr ty (.int .u64 (.ofNat x)) (.int kk (.ofNat j))=some (.int .u64 (.ofNat (x/2 ^ j))):=by
 have e1:min (Int.toNat (.ofNat j)) 64=j:=by show min j 64=j;omega
 have:Int.fdiv (.ofNat x) (2 ^ min (Int.toNat (.ofNat j)) 64)= .ofNat (x/2 ^ j):=by
  rw[e1,wU];show Int.fdiv ((x:Nat):Int) ((2 ^ j:Nat):Int)=_;rw[Int.fdiv_eq_ediv_of_nonneg _<|Int.natCast_nonneg _];rfl
 cases k<;>exact congrArg (fun z=>some (V.int .u64 z)) this
theorem Rm {x:Nat}:(bif F (.ofNat (x/2 ^ j &&& 1)) 0 then false else true)=x.testBit j:=by
 show(bif F (.ofNat (x/2 ^ j &&& 1)) (.ofNat 0) then false else true)=(1 &&& (x >>> j) !=0);rw[eW,Nat.shiftRight_eq_div_pow,Nat.and_comm 1];cases h:decide (x/2 ^ j &&& 1=0) with
 | true=>rw[of_decide_eq_true h];rfl
 | false=>
  have h1:=of_decide_eq_false h;rw[Nat.and_one_is_mod] at h1⊢;have d:x/2 ^ j%2=1:=by omega
  rw[d];rfl
theorem Fj {P:Program} {k:Bool} {ty:TypeId} {x:Nat}:pH P k .neq ty (.int .u64 (.ofNat (x/2 ^ j &&& 1))) (.int .u64 0)=some (.bool<|x.testBit j):=by
 rw[<-Rm];cases k<;>rfl
theorem gK {n i:Nat} {p:Nat->Bool} (h:i<n):(bL n p).testBit i=p i:=by rw[dw,decide_eq_true h,zp_]
theorem Qs {n k i:Nat} {R:Rn} (h:ig R k i i k=true):(bC n<|ig R k i).set i (bL n (ig R k i i) ||| bL n (ig R k i k))=bC n (ig R k (i+1)):=by
 rw[pN,lX];refine cF fun a b _ _=>?_
 rw[Bt]
 by_cases e:a=i
 ·subst e;rw[beq_self_eq_true,decide_eq_true Z,h];simp
 rw[decide_eq_false e,show(a == i)=false by simpa using e];rfl
theorem Su {n k i:Nat} {R:Rn} (h:ig R k i i k=false):bC n (ig R k i)=bC n (ig R k (i+1)):=by
 refine cF fun a b _ _=>?_
 rw[Bt]
 by_cases e:a=i
 ·subst e;rw[decide_eq_true Z,h];simp
 rw[decide_eq_false e];rfl
section
variable {P:Program} {G:Cx} {K:KP} {L:Own} {n:Nat} {t:PT V} {O:aB} {ops:Array Oper} {o:Oper} {Q:Ex->PT V->aB->Prop}
theorem Qz {ds:Operand} {ty b:Nat} {c:rK} {v:V} {m:Nat} {news:List V} (A:cl.callee= .builtin .copy) (B:cl.args.toList= [ds,so]) (C:cl.argTypes[0]? =some ty) (hu:P.underlying ty=some (.slice e)) (hj:(P.info? e).map (·.size)=some 1)
  (hd:bI G t ds=some (.slice b 0 0 c)) (E:bI G t so=some v) (d:lN O 1 v=some (m,news)):eo P G (bI G t) O (.call cl)= .val (D) O:=by
 refine lQ (by simp[kindOf,A]) ?_;obtain⟨j,u,z⟩:=oM_.1 hj
 have he:jv (bI G t) [ds,so]=some [.slice b 0 0 c,v]:=by
  unfold jv dv;simp only[hd,E]
 simp only[gD,A,B,he,vL,C,hu,u,z,d,Nat.min_zero,show Nat.beq 0 0=true from Z,ct]
theorem Pg {lo:List Oper} {x:Nat×cN} {ds:Operand} {ty b e':Nat} {c:rK} {v:V} {cells:List V} {l:List Nat} {t':V->PT V} (u:H O K (x::(b,.row cells e' false)::L)) (h:bO K 1 RU l v) (hlen:cells.length=l.length) (hw:bR ops t o=some true) (B:o.op= .call cl) (C:cl.callee= .builtin .copy) (E:cl.args.toList= [ds,so])
  (I:cl.argTypes[0]? =some ty) (hd:bI G t ds=some (.slice b 0 l.length c)) (d:bI G t so=some v) (hp:∀v,dE t n o.dst v=some (t' v)) (hh:∀O',H O' K (x::(b,.row (l.map gU) e' false)::L)->bZ P G ops n lo (t'<|nI l.length) O' Q)
  (hu:P.underlying ty=some (.slice e)) (hj:(P.info? e).map (·.size)=some 1):bZ P G ops n (o::lo) t O Q:=by
 obtain⟨news,h1,N,R,S⟩:=oB u h (fun x vs T=>by obtain rfl:=T;rfl)
 have hn:news=l.map gU:=by
  refine zf_ fun i=>?_
  by_cases hi:i<l.length
  ·have h5:=S i l[i] (gC hi);have M:((news.drop (i*1)).take 1)= [gU l[i]]:=h5;rw[Nat.mul_one] at M;have h7:=congrArg (fun z=>z[0]?) M;simp only[List.getElem?_take,List.getElem?_drop] at h7;simp at h7;rw[gM_,gC hi];simpa using h7
  rw[gN_ (by rw[N];omega),gN_ (by rw[lM_];omega)]
 subst hn;rcases Nat.eq_zero_or_pos l.length with h0 | h0
 ·have hl:l= []:=List.length_eq_zero_iff.1 h0;subst hl;have A:cells= []:=List.length_eq_zero_iff.1 hlen;subst A;exact J hw (by rw[B];exact Qz C E I hu hj hd d h1) (hp _)<|hh _ u
 exact J hw (by rw[B];exact Sz (cells':=l.map gU) C E I hu hj hd d h1 (Nat.min_self _) h0 (u.get 1 Z) (by rw[tL_ (by rw[lM_];omega)];exact R) (nR_ _) (by rw[tL_ (by rw[lM_];omega),lM_];omega) (by
  rw[tL_ (by rw[lM_];omega),lZ _ _ _ (by rw[lM_];omega),List.take_zero,List.nil_append,List.drop_eq_nil_of_le (by rw[lM_];omega),zk_])) (hp _) (hh _<|u.VX (.there .here))
end
theorem Vr (hG:Plain G) {n:Nat} (hn:n<64) {l:List (Nat×Nat)} {v:V} (S:bO K 2 RP l v) (hlt:∀p∈l,p.1<n/\p.2<n) (ar:H O K L):
  EC G 223 [nI n,v] O fun u O'=>∃b,u= .agg [nI n,.slice b 0 n (.known n)]/\H O' K ((b,.row ((bC n<|wB l).map gU) 144 false)::L):=by
 refine V9 hG Tryz.func223 Z<|Vw 2 Z<|kb ar (W6 (cs:=[D,.av])) (fun O b1 ar=>?_);refine UK 5 Z<|kw (W2 Z Z Z) (GN hG hn ar) ?_;rintro _ O ⟨T,rfl,ar⟩;refine kb ar (W6 (cs:=[D,.av])) (fun O b3 ar=>?_);refine ks ar (W9 Z Z Z ar.g0 Z) (fun O ar=>?_);refine TE 6 Z<|J Z (W5 S Z Z Z (e:=224) Z) Z ?_;rw[show bC n (fun _ _=>false)=bC n (wB<|l.take 0) from cF fun a b _ _=>by unfold wB;simp] at ar;refine UI 4 Z (bk ([7]++rg 12 39) (fun j t O=>∃(k:Nat),j+k=l.length/\t.get 12=some (nI k)/\H O K ((b3,.row [nI n,.slice T 0 n (.known n)] 167 false)::(T,.row ((bC n<|wB<|l.take k).map gU) 144 false)::(b1,.row [D,.av] 167 false)::L)) (l.length) ⟨0,Z,Z,ar⟩ ?_);clear ar;intro j3 t O ak hI;obtain⟨k,ac,B,ar⟩:=hI;obtain⟨oo,rfl⟩:=ak.q1 B Z;refine Vv 6 Z<|aG Z (fun d=>?_) (fun d=>?_)
 ·refine SF 6 Z ?_;obtain⟨⟨pa,pb⟩,A,am⟩:=di d;obtain⟨z,W⟩:pa<n/\pb<n:=hlt _ (gB_ A);refine WV (e:=224) (m:=2) S A Z Z Z Z (fun ao aa C ab E=>?_);obtain rfl:=E;refine J Z (W8 ar C Z Z) Z<|kb ar (W6 (cs:=[D,D])) (fun O b4 ar=>?_);refine ks ar (W9 Z Z Z ar.g0 Z) (fun O ar=>?_);refine UK 4 Z<|J Z (eV (e:=3) (m:=1) (n:=2) (j:=0) U U Z Z (by decide)) Z<|Wk ar 2 [0] Z Z<|ky Z (an Z) (fun I=>?_) (fun I=>?_)
  ·refine J Z (eV (e:=3) (m:=1) (n:=2) (j:=0) U U Z Z (by decide)) Z<|Wk ar 5 [0,0,1] Z Z<|ky Z (an Z) (fun M=>?_) (fun M=>?_)
   ·refine J Z (eV (e:=3) (m:=1) (n:=2) (j:=1) U U Z Z (by decide)) Z<|Wk ar 3 [0] Z Z<|ky Z (an Z) (fun N=>?_) (fun N=>?_)
    ·refine J Z (eV (e:=3) (m:=1) (n:=2) (j:=1) U U Z Z (by decide)) Z<|VF ar 7 [0,0,1] Z Z<|aG Z (fun R=>?_) (fun R=>?_)
     ·refine aL (l:=zp [0,1,2,3,4,5,6,7,8,9,10,11,12]) U U (Wl ar 2 [1,1] Z Z (ah Z Z (eV (e:=3) (m:=1) (n:=2) (j:=0) U U Z Z (by decide)) Z (ah Z Z (W4 Z ar.g0 Z) Z (ah Z Z (eH (e:=144) (m:=1) U U Z Z z) Z (ah Z Z (aw Z (ar.get 2 Z) U<|iX (du z) (by first | omega | rfl)) Z (ah Z Z (eV (e:=3) (m:=1) (n:=2) (j:=1) U U Z Z (by decide)) Z (ah Z Z (W4 Z ar.g0 Z) Z (ah Z Z (fE (j:=pb) oM U U U Z) Z (ah Z Z (ay (v:=.int .u64 (.ofNat (2 ^ pb))) Z Z<|wo oM) Z (ah Z Z (ay (v:=.int .u64 (.ofNat<|bL n (wB (l.take k) pa) ||| 2 ^ pb)) Z Z<|wD (cX oM _)<|Nat.pow_lt_pow_right oM oM) Z<|ah Z Z (eH (e:=144) (m:=1) U U Z Z z) Z ?_))))))))));refine eF ar (.there (.there .here)) Z Z (aO Z Z Z (ar.get 2 Z) (m:=1) U Z (by rw[lM_];rw[bQ];omega) Z (cells':=((bC n<|wB<|l.take k).set pa<|bL n (wB (l.take k) pa) ||| 2 ^ pb).map (gU)) (eZ (f:=gU) (v:=(bL n (wB (l.take k) pa) ||| 2 ^ pb)) (by rw[bQ];exact z) (by first | omega | rfl))) Z (fun O ar=>?_);refine⟨aT,?_⟩;rw[H5 A W] at ar;refine aV<|az<|Wd 4 Z ?_;have ar:=ar.pop;have hlp:=aM d;refine aD ⟨j3-1,by omega,oF,k+1,by omega,cI<|aX (by have:=S.cS;omega),ar⟩
     exact absurd (bK R) oM
    exact Bool.noConfusion (show true=false from N)
   exact absurd (bK M) oM
  exact Bool.noConfusion (show true=false from I)
 refine UH 3 Z<|aN<|Vw 2 Z<|J Z (Xc Z ar.g0 Z) Z<|lg ar Z (W9 Z Z Z (ar.get 2 Z) Z) Z (fun O ar=>?_);refine VA 3 Z ?_;have X:l.take k=l:=tL_ (bK d);rw[X] at ar;exact dh Z Z (ar.get 2 Z) (m:=2) U Z ⟨T,Z,ar.sub (.cons _ (.cons_cons _ (.cons _ (.refl _))))⟩
theorem ML (d:Plain G) {n:Nat} (hn:n<64) (z:bO K 1 RU (bC n A) va) (ar:H O K L):
  EC G 194 [.agg [nI n,va]] O fun u O'=>∃b,u= .agg [nI n,.slice b 0 n (.known n)]/\H O' K ((b,.row ((bC n A).map gU) 144 false)::L):=by
 refine V9 d Tryz.func194 Z<|Vw 2 Z<|kb ar (cH Z Z) (fun O b1 ar=>?_);refine kb ar (W6 (cs:=[D,.av])) (fun O b2 ar=>?_);refine UQ ar 6 [0,1] Z Z<|kw (W2 Z Z Z) (GN d hn ar) ?_;rintro _ O ⟨B,rfl,ar⟩;refine kb ar (W6 (cs:=[D,.av])) (fun O b4 ar=>?_);refine ks ar (W9 Z Z Z ar.g0 Z) (fun O ar=>?_);refine UQ ar 8 [1,0,1,3] Z Z<|Pg (e:=144) ar z (by rw[lM_,bQ,bQ]) Z Z Z Z Z (by rw[bQ];rfl) Z (fun _=>Z) (fun O ar=>?_) U U;refine UK 4 Z<|J Z (Xc Z ar.g0 Z) Z<|lg ar Z (W9 Z Z Z (ar.get 2 Z) Z) Z (fun O ar=>?_);refine VA 3 Z ?_;exact dh Z Z (ar.get 2 Z) (m:=2) U Z ⟨B,Z,ar.sub (.cons _ (.cons_cons _ (.cons _ (.cons _ (.refl _)))))⟩
theorem Cz (N:Plain G) {n:Nat} (hn:n<64) (W:bO K 1 RU (bC n A) va) (ar:H O K L):
  EC G 155 [.agg [nI n,va]] O fun u O'=>∃b,u= .agg [nI n,.slice b 0 n (.known n)]/\H O' K ((b,.row ((bC n<|lz n A).map gU) 144 false)::L):=by
 refine V9 N Tryz.func155 Z<|Vw 2 Z<|kb ar (cH Z Z) (fun O X ar=>?_);refine kb ar (W6 (cs:=[D,.av])) (fun O b2 ar=>?_);refine TE 5 Z<|J Z (Xc Z ar.g1 Z) Z<|kx (W2 Z Z Z) (H9 N hn W ar) (fun O ar=>?_);refine Vy 3 Z<|aG Z (fun h8=>?_) (fun h8=>?_)
 ·exact absurd h8 (by decide)
 refine UG 4 Z<|J Z (Xc Z ar.g1 Z) Z<|kw (W2 Z Z Z) (ML N hn W ar) ?_;rintro _ O ⟨E,rfl,ar⟩;refine kb ar (W6 (cs:=[D,.av])) (fun O b4 ar=>?_);refine ks ar (W9 Z Z Z ar.g0 Z) (fun O ar=>?_);refine TF ar 7 [1,0] Z Z (J Z (Q7 Z Z Z (e:=144) U Z) Z (UI 4 Z (bk ([4,5]++rg 15 33) (fun j t O=>∃(k:Nat),j+k=n/\t.get 15=some (nI k)/\H O K ((b4,.row [nI n,.slice E 0 n (.known n)] 167 false)::(E,.row ((bC n<|jF A k).map gU) 144 false)::(b2,.row [D,.av] 167 false)::(X,.row [nI n,va] 167 false)::L)) (n) ⟨0,Z,Z,ar⟩ ?_)));clear ar;intro j5 t O ak R;obtain⟨k,aa,I,ar⟩:=R;obtain⟨oo,rfl⟩:=ak.q1 I Z;refine Vv 6 Z<|aG Z (fun B=>?_) (fun B=>?_)
 ·refine SF 12 Z<|Wk ar 2 [1,0] Z Z<|J Z (Q7 Z Z Z (e:=144) U Z) Z ?_;rw[<-Kz] at ar;refine UI 4 Z (bk ([5]++rg 21 26) (fun j t O=>∃(i:Nat),j+i=n/\t.get 21=some (nI i)/\H O K ((b4,.row [nI n,.slice E 0 n (.known n)] 167 false)::(E,.row ((bC n<|ig A k i).map gU) 144 false)::(b2,.row [D,.av] 167 false)::(X,.row [nI n,va] 167 false)::L)) (n) ⟨0,Z,Z,ar⟩ ?_);clear ar;intro j8 t O ak R;obtain⟨i,ab,M,ar⟩:=R;obtain⟨oo,rfl⟩:=ak.q1 M Z;refine Vv 6 Z<|aG Z (fun d=>?_) (fun d=>?_)
  ·refine SF 12 Z ?_;have hkn:=aM B;have hin:=aM d;refine Wk ar 3 [1,0] Z Z (J Z (eH (e:=144) (m:=1) U U Z Z hin) Z (J Z (aw Z ar.g1 U<|iX (du hin) (by first | omega | rfl)) Z (vQ 1 Z (J Z (fE (j:=k) oM U U U Z) Z (J Z (ay (v:=.int .u64 (.ofNat (bL n (ig A k i i)/2 ^ k))) Z Z<|wq oM) Z (J Z (ay (v:=.int .u64 (.ofNat (bL n (ig A k i i)/2 ^ k &&& 1))) Z Z<|ss (Nat.lt_of_le_of_lt (Nat.div_le_self _ _)<|cX oM _) (by decide)) Z (J Z (ay (v:=.bool ((bL n<|ig A k i i).testBit k)) Z Z (Fj)) Z<|Vy 2 Z<|aG Z (fun C=>?_) (fun C=>?_))))))))
   ·have z:ig A k i i k=true:=(gK (p:=ig A k i i) hkn).symm.trans C;refine aL (l:=zp [0,1,2,3,4,5,6,7,8,9,10,11,12]) U U (Wl ar 3 [1,0] Z Z (ah Z Z (eH (e:=144) (m:=1) U U Z Z hin) Z (ah Z Z (aw Z ar.g1 U<|iX (du hin) (by first | omega | rfl)) Z (Wl ar 3 [1,0] Z Z (ah Z Z (eH (e:=144) (m:=1) U U Z Z hkn) Z (ah Z Z (aw Z ar.g1 U<|iX (du hkn) (by first | omega | rfl)) Z (ah Z Z (ay (v:=.int .u64 (.ofNat<|bL n (ig A k i i) ||| bL n (ig A k i k))) Z Z<|wD (cX oM _)<|cX oM _) Z<|ah Z Z (eH (e:=144) (m:=1) U U Z Z hin) Z ?_)))))));refine eF ar (.there .here) Z Z (aO Z Z Z ar.g1 (m:=1) U Z (by rw[lM_];rw[bQ];omega) Z (cells':=((bC n<|ig A k i).set i<|bL n (ig A k i i) ||| bL n (ig A k i k)).map (gU)) (eZ (f:=gU) (v:=(bL n (ig A k i i) ||| bL n (ig A k i k))) (by rw[bQ];exact hin) (by first | omega | rfl))) Z (fun O ar=>?_);refine⟨aT,?_⟩;rw[Qs z] at ar;refine aV<|az<|Wd 4 Z ?_;have hlp:=aM d;refine aD ⟨j8-1,by omega,oF,i+1,by omega,cI<|aX oM,ar⟩
   have z:ig A k i i k=false:=(gK (p:=ig A k i i) hkn).symm.trans C;refine aI<|az<|Wd 4 Z ?_;have hlp:=aM d;rw[Su z] at ar;refine aD ⟨j8-1,by omega,oF,i+1,by omega,cI<|aX oM,ar⟩
  refine UH 3 Z<|aN<|az<|Wd 4 Z ?_;have hlp:=aM B;have S:i=n:=by have:=bK d;omega
  subst S;rw[NW] at ar;refine aD ⟨j5-1,by omega,oF,k+1,by omega,cI<|aX oM,ar⟩
 refine UH 3 Z<|aN<|Vw 2 Z<|J Z (Xc Z ar.g0 Z) Z<|lg ar Z (W9 Z Z Z (ar.get 2 Z) Z) Z (fun O ar=>?_);refine VA 3 Z ?_;have T:k=n:=by have:=bK B;omega
 subst T;rw[NX] at ar;exact dh Z Z (ar.get 2 Z) (m:=2) U Z ⟨E,Z,ar.sub (.cons _ (.cons_cons _ (.cons _ (.cons _ (.refl _)))))⟩
variable {ca fi:List V} {z:Nat}
theorem CB (Q:Plain G) {b:Nat} {ev:V} (hv:lA K g b iv ev fv pv) (aa:nV g<=62) {fn:Nat} (C:lI Tryz.prog fn=true) {p:Nat->Bool} (hf:∀i,i<nV g->∀(O:aB) (L:Own),H O K L->EC G fn (fi++([nI i]++ca)) O fun u O'=>u= .bool (p i)/\H O' K L) (ar:H O K L):
  EC G 229 [.ptr b 0,.func fn fi ca] O fun u O'=>u= .int .u64 (.ofNat<|bL (nV g) p)/\H O' K L:=by
 refine V9 Q Tryz.func229 Z<|UE 14 Z<|J Z (cO Z) Z<|J Z (W3 0 Z) Z<|J Z (W4 Z (ar.cg hv.row) Z) Z<|J Z (W5 hv.ids Z Z Z (e:=87) Z) Z<|UI 4 Z ?_;obtain⟨LL1,ar,hLL1⟩:=ar.named;refine bk ([5,6]++rg 12 12) (fun j t O=>∃(i:Nat),j+i=nV g/\t.get 5=some (.int .u64 (.ofNat<|bL i p))/\t.get 12=some (nI i)/\H O K LL1) (nV g) ⟨0,Z,Z,Z,ar⟩ ?_;clear ar;intro N t O ak R;obtain⟨i,ab,E,B,ar⟩:=R;subst hLL1;obtain⟨oo,rfl⟩:=ak.q2 E B Z;refine Vv 6 Z<|aG Z (fun d=>?_) (fun d=>?_)
 ·refine SF 6 Z ?_;have I:i<nV g:=aM d;refine UK 8 Z<|gz Z (aS Z Z Z C) (fun _=>Z) (hf i I _ _ ar) (fun A O ar=>?_) (fun A O ar=>?_)
  ·refine Vz 6 Z (J Z (fE (j:=i) oM U U U Z) Z (J Z (ay (v:=.int .u64 (.ofNat (2 ^ i))) Z Z<|wo oM) Z (J Z (ay (v:=.int .u64 (.ofNat<|bL i p ||| 2 ^ i)) Z Z<|wD (cX oM _)<|Nat.pow_lt_pow_right oM oM) Z<|Wg 2 Z<|az<|Wd 4 Z<|aD ⟨N-1,by omega,oF,i+1,by omega,congrArg (fun z=>some (V.int .u64 (.ofNat z))) (by show _=bL i p ||| (bif p i then 2 ^ i else 0);rw[A];rfl),cI<|aX oM,ar⟩)))
  refine UL 5 Z<|Wd 4 Z<|aD ⟨N-1,by omega,oF,i+1,by omega,congrArg (fun z=>some (V.int .u64 (.ofNat z))) (by show _=bL i p ||| (bif p i then 2 ^ i else 0);rw[A];exact(Nat.or_zero _).symm),cI<|aX oM,ar⟩
 refine UH 3 Z<|aN<|Wf 7 Z ?_;have M:i=nV g:=by have h:nV g<=i:=bK d;omega
 subst M;exact aA Z Z ⟨Z,ar⟩
theorem A0 (hG:Plain G) {b:Nat} {ev:V} (hv:lA K g b iv ev fv pv) (ab:nV g<=62) {fn:Nat} (ac:lI Tryz.prog fn=true) {R:Rn} (hf:∀i q,i<nV g->q<nV g->∀(O:aB) (L:Own),H O K L->EC G fn (fi++([nI i,nI q]++ca)) O fun u O'=>u= .bool (R i q)/\H O' K L) (ar:H O K L):
  EC G 184 [.ptr b 0,.func fn fi ca] O fun u O'=>∃N c,KP.le K N/\u= .agg [nI<|nV g,.slice c 0 (nV g) (.known<|nV g)]/\H O' N ((c,.row ((bC (nV g) R).map gU) 144 false)::L):=by
 refine V9 hG Tryz.func184 Z<|Vw 2 Z<|kb ar (W6 (cs:=[D,.av])) (fun O b1 ar=>?_);refine TE 11 Z (J Z (cO Z) Z (J Z (W3 0 Z) Z (J Z (W4 Z (ar.cg hv.row) Z) Z (J Z (W5 hv.ids Z Z Z (e:=87) Z) Z (UI 4 Z (bk ([5,6,7]++rg 13 23) (fun j t O=>∃(i:Nat) (u:V) (M:Own),j+i=nV g/\cy 2 224 RP (eM (nV g) R i 0) u M/\t.get 5=some (u)/\t.get 13=some (nI i)/\H O K (M++(b1,.row [D,.av] 167 false)::L)) (nV g) ⟨0,_,[],Z,(show cy 2 224 RP (eM (nV g) R 0 0) .av [] from .inl ⟨by unfold eM;simp,Z,Z⟩),Z,Z,ar⟩ ?_))))));clear ar;intro j3 t O ak hI;obtain⟨i,u,M,a0,hO,A,Q,ar⟩:=hI;obtain⟨oo,rfl⟩:=ak.q2 A Q Z;refine Vv 6 Z<|aG Z (fun d=>?_) (fun d=>?_)
 ·refine SF 13 Z (J Z (cO Z) Z (J Z (W3 0 Z) Z (J Z (W4 Z (ar.cg hv.row) Z) Z (J Z (W5 hv.ids Z Z Z (e:=87) Z) Z (UI 4 Z (bk ([5,7]++rg 21 14) (fun j t O=>∃(q:Nat) (S:V) (T:Own),j+q=nV g/\cy 2 224 RP (eM (nV g) R i q) S T/\t.get 5=some (S)/\t.get 21=some (nI q)/\H O K (T++(b1,.row [D,.av] 167 false)::L)) (nV g) ⟨0,u,M,Z,hO,Z,Z,ar⟩ ?_))))));clear ar;intro j6 t O ak hI;obtain⟨q,S,T,a1,hO2,A,W,ar⟩:=hI;obtain⟨oo,rfl⟩:=ak.q2 A W Z;refine Vv 6 Z<|aG Z (fun B=>?_) (fun B=>?_)
  ·refine SF 12 Z ?_;have am:i<nV g:=aM d;have ao:q<nV g:=aM B;refine Wh 3 Z<|gz Z (aS Z Z Z ac) (fun _=>Z) (hf i q am ao _ _ ar) (fun C O ar=>?_) (fun C O ar=>?_)
   ·refine Vz 7 Z<|J Z (jX (e:=3) (n:=2) (m:=1) (zero:=[D,D]) (cs:=[_,_]) U U U Z) Z<|fh ar Z (bN (e:=224) (m:=2) (z:=[D,D]) (cs:=[_,_]) U U U U<|aZ Z Z Z Z bE) (fun _=>Z) (fun O b2 ar=>?_);replace ar:=ar.pull (.there .here);replace ar:=ar.pull (.bV<|bu.here (X:=[_]));refine fw (R:=RP) (m:=2) (e:=224) hO2 ar (dn (m:=2) Z (show RP (i,q) [nI i,nI q] from Z)) RP.leaf (by have:=jl (n:=nV g) (R:=R) (i:=i) (q:=q);have:i*nV g<=62*62:=Nat.mul_le_mul oM ab;show _+1<=_;omega) Z Z Z Z Z Z Z (fun _=>Z) (fun O ap aE hO33 ar=>?_);refine Wg 2 Z<|az<|Wd 4 Z<|aD ⟨j6-1,by omega,oF,q+1,ap,aE,by omega,(jn C ▸ hO33),Z,cI<|aX oM,ar⟩
   refine UL 5 Z<|Wd 4 Z<|aD ⟨j6-1,by omega,oF,q+1,S,T,by omega,(kD C ▸ hO2),Z,cI<|aX oM,ar⟩
  refine UH 3 Z<|aN<|az<|Wd 4 Z ?_;have a2:i<nV g:=aM d;have E:q=nV g:=by have h:nV g<=q:=bK B;omega
  subst E;refine aD ⟨j3-1,by omega,oF,i+1,S,T,by omega,(jm ▸ hO2),Z,cI<|aX oM,ar⟩
 refine UH 3 Z<|aN<|Vw 3 Z<|J Z (cO Z) Z<|J Z (W3 0 Z) Z<|J Z (W4 Z (ar.cg hv.row) Z) Z<|J Z (W5 hv.ids Z Z Z (e:=87) Z) Z<|vQ 1 Z ?_;have E:i=nV g:=by have h:nV g<=i:=bK d;omega
 subst E;rw[nm] at hO;obtain⟨N,aa,I,ar⟩:=H.bF (M:=M) ar;have hs1:=hO.fg (K:=N) fun y hy=>I _ hy
 refine kw (W2 Z Z Z) (Vr hG (n:=nV g) oM hs1 ou ar) ?_;rintro _ O ⟨b2,rfl,ar⟩;rw[lW] at ar;refine gw ar Z (W9 Z Z Z ar.g1 Z) Z (fun O ar=>?_);refine VA 3 Z ?_;exact dh Z Z ar.g1 (m:=2) U Z ⟨N,b2,aa,Z,ar.sub (.cons_cons _ (.cons _ (.refl _)))⟩
theorem R3 (Q:Plain G) {b:Nat} {ev:V} (hv:lA K g b iv ev fv pv) (R:dC g) {p:Nat->Bool} (am:nV g<=62) {i M N:Nat} (hi:i<nV g) (h1:K M (.row [.ptr b 0] 245 false)) (S:K N (.row [.int .u64 (.ofNat<|bL (nV g) p)] 144 false)) (ar:H O K L):
  Ca G K L 256 [nI i,.ptr M 0,.ptr N 0] O <| .bool (yf g p i):=by
 refine V9 Q Tryz.func256 Z<|Vv 6 Z<|aL (l:=zp [0,1,2,3,4,5,6,7,8,9,10,11,12,13,14,15,16,17,18,19,20,21,22,23]) U U<|ah Z Z (W4 Z (ar.cg h1) Z) Z<|ah Z Z (cO Z) Z<|ah Z Z (W3 1 Z) Z<|ah Z Z (W4 Z (ar.cg hv.row) Z) Z<|wQ 1 Z<|WW (e:=38) (m:=5) hv.jv (eQ hi) Z Z Z Z Z (fun ao aa u ab z=>?_);obtain rfl:=z;refine dN u Z Z Z Z (k:=0) U (lb Z) (fun _=>Z) (fun ap A=>?_);refine ah Z Z (W7 ar A Z Z) Z<|wQ 1 Z<|e8 Z Z (an Z) (fun _=>Z) (fun d=>?_) (fun d=>?_)
 ·refine ah Z Z (W4 Z (ar.cg S) Z) Z<|ah Z Z (W4 Z (ar.cg h1) Z) Z<|ah Z Z (cO Z) Z<|ah Z Z (W3 2 Z) Z<|ah Z Z (W4 Z (ar.cg hv.row) Z) Z<|wQ 1 Z<|WW (e:=3) (m:=1) hv.from_ (qG hi) Z Z Z Z Z (fun aE ac B ak C=>?_);obtain rfl:=C;refine ah Z Z (W7 ar B Z Z) Z ?_;obtain⟨f,I,E,_⟩:=jL R hi (kW d);refine ah Z Z (fE (j:=f) oM U U U<|cI E) Z (ah Z Z (ay (v:=.int .u64 (.ofNat (bL (nV g) p/2 ^ f))) Z Z<|wq oM) Z (ah Z Z (ay (v:=.int .u64 (.ofNat (bL (nV g) p/2 ^ f &&& 1))) Z Z<|ss (Nat.lt_of_le_of_lt (Nat.div_le_self _ _)<|cX oM _) (by decide)) Z (ah Z Z (ay (v:=.bool ((bL (nV g) p).testBit f)) Z Z (Fj)) Z<|VC 5 Z ?_)));exact aA Z Z ⟨cB (by unfold yf;rw[show F (eu g i).kind 3=true from d,E];exact gK I),ar⟩
 refine VC 17 Z ?_;exact aA Z Z ⟨cB (by unfold yf;rw[show F (eu g i).kind 3=false from d];rfl),ar⟩
theorem Nu {p:Nat->Bool} {x:Nat} (hne:x≠bL (nV g) p) (hj:2*(nV g-gL (nV g) p)+(if x=bL (nV g) p then 0 else 1)<=j):2*(nV g-gL (nV g) (iR g p))+(if bL (nV g) p=bL (nV g) (iR g p) then 0 else 1)<j:=by
 rw[if_neg hne] at hj;have h1:=BT (nV g) (iR g p);have h0:gL (nV g) p<=gL (nV g) (iR g p):=Au fun k hk=>by unfold iR;rw[hk];rfl
 by_cases h:bL (nV g) p=bL (nV g) (iR g p)
 ·rw[if_pos h];omega
 rw[if_neg h];have:=JD h;omega
theorem PY (z:dC g) {w x:Nat} {p:Nat->Bool} (hw:w<nV g) (h:Dw g w p) (hx:x=bL (nV g) p) (A:x=0∨∃d,Dw g w d/\x=bL (nV g) d/\bL (nV g) p=bL (nV g) (iR g d)):bL (nV g) p=bL (nV g) (mR g w):=by
 rcases A with h0 | ⟨d,h1,u,B⟩
 ·have:=gK (p:=p) hw;rw[<-hx,h0,h.at_] at this;simp at this
 rw[<-hx,u];exact Qd z hw h1 (by rw[<-u,hx,B])
theorem GQ (E:Plain G) {b:Nat} {ev:V} (hv:lA K g b iv ev fv pv) (I:dC g) (C:nV g<=62) {w:Nat} (hw:w<nV g) (ar:H O K L):
  Ca G K L 228 [.ptr b 0,nI w] O <| .int .u64 (.ofNat<|bL (nV g)<|mR g w):=by
 refine V9 E Tryz.func228 Z<|Vw 2 Z<|kb ar (cH Z Z) (fun O b1 ar=>?_);obtain⟨T,d,u,ar⟩:=ar.bF (M:=[_]);have h1:=u _ (mS_ ..);clear u;replace hv:=hv.mono d;refine UK 6 Z (J Z (fE (j:=w) oM U U U Z) Z (J Z (ay (v:=.int .u64 (.ofNat (2 ^ w))) Z Z<|wo oM) Z<|kb ar (W6 (cs:=[.int .u64 0])) (fun O W ar=>?_)));refine ks ar (Sx Z Z Z ar.g0 (m:=1) Z Z (cells':=[_]) Z) (fun O ar=>?_);refine TE 5 Z ?_;rw[<-Qc hw] at ar;refine UI 4 Z (bk ([6]++rg 10 9) (fun j t O=>∃(p:Nat->Bool) (x:Nat),2*(nV g-gL (nV g) p)+(if x=bL (nV g) p then 0 else 1)<=j/\Dw g w p/\(x=0∨∃N,Dw g w N/\x=bL (nV g) N/\bL (nV g) p=bL (nV g) (iR g N))/\t.get 6=some (.int .u64 (.ofNat x))/\H O T ((W,.row [.int .u64 (.ofNat<|bL (nV g) p)] 144 false)::L)) (2*(nV g-gL (nV g) (fun n=>decide (n=w)))+(if 0=bL (nV g) (fun n=>decide (n=w)) then 0 else 1)) ⟨_,0,nR_ _,Si,.inl Z,Z,ar⟩ ?_);clear ar;intro j3 t O ak X;obtain⟨p,x,Q,A,R,S,ar⟩:=X;obtain⟨oo,rfl⟩:=ak.q1 S Z;refine VD ar 8 [0] Z Z<|aG Z (fun B=>?_) (fun B=>?_)
 ·refine aI<|ad<|aK<|Vw 2 Z ?_;have hne:x≠bL (nV g) p:=fun e=>by have h:=cY B;rw[e,fR] at h;cases h
  refine VF ar 4 [0] Z Z (aL (l:=[(0,[]),(1,[]),(2,[]),(3,[0]),(4,[]),(5,[])]) U U<|ah Z Z (W4 Z ar.g0 Z) Z<|ah Z Z (W4 Z (ar.cg h1) Z) Z<|wQ 1 Z ?_);have hst0:=ar;have hstk:=H.keeps (M:=[_]) ar;refine eL Z Z (W2 Z Z Z) (fun _=>Z) ((CB E (hv.mono<|KP.ey _ _) C (fn:=256) (fi:=[]) (ca:=[_,_]) U (fun i hi O L ar=>R3 E (hv.mono<|KP.ey _ _) I (p:=p) C hi (KP.ey _ _ _ _ h1) (.inr<|mS_ ..) ar) hstk).mono fun v O' h=>⟨h.1,H.kY (M:=[_]) hst0 h.2⟩) (fun O ar=>?_);refine⟨(bj (bx Z Z Z Z Z (W4 Z ar.g0 Z)<|cW _ _) aT),?_⟩;refine ah Z Z (ay (v:=.int .u64 (.ofNat<|bL (nV g)<|iR g p)) Z Z (by rw[<-JC];exact wD (cX oM _)<|cX oM _)) Z<|ia ar Z Z (Sx Z Z Z ar.g0 (m:=1) Z Z (cells':=[_]) Z) Z (fun O ar=>?_);refine⟨aT,?_⟩;refine aV<|az<|aD ⟨_,Nu hne Q,oF,iR g p,bL (nV g) p,nR_ _,Qe I A,.inr ⟨p,A,Z,Z⟩,Z,ar⟩
 refine UH 3 Z<|aN<|VE ar 4 [0] Z Z<|VA 3 Z ?_;have hx:x=bL (nV g) p:=xM.1 (cD B);exact aA Z Z ⟨congrArg (fun z=>V.int .u64 (.ofNat z))<|PY I hw A hx R,(ar.pop).weaken d⟩
theorem RY (d:Plain G) {b:Nat} {ev:V} (hv:lA K g b iv ev fv pv) {i a u:Nat} (hi:i<nV g) (A:a<nV g) (h1:K u (.row [.ptr b 0] 245 false)) (B:K z (.row [nI a] 3 false)) (ar:H O K L):
  Ca G K L 257 [nI i,.ptr u 0,.ptr z 0] O <| .bool (jT g i a):=by
 refine V9 d Tryz.func257 Z<|Vw 7 Z<|J Z (W4 Z (ar.cg h1) Z) Z<|vQ 1 Z<|J Z (W4 Z (ar.cg B) Z) Z<|kx (W2 Z Z Z) (R1 d hv hi A ar) (fun O ar=>?_);refine VA 4 Z ?_;exact aA Z Z ⟨Z,ar⟩
theorem OB {s:Nat->Bool} {a:Nat}:(bif F (.ofNat<|bL (nV g) s &&& bL (nV g) (fun b=>jT g b a)) 0 then false else true)=(false || (true && (List.range<|nV g).any fun b=>s b && jT g b a)):=by
 rw[Bool.false_or,zp_,show(0:Int)= .ofNat 0 from Z,eW];cases h:(List.range<|nV g).any fun b=>s b && jT g b a with
 | true=>rw[decide_eq_false<|HC.2 h];rfl
 | false=>
  have:bL (nV g) s &&& bL (nV g) (fun b=>jT g b a)=0:=zo_ fun hn=>by rw[HC.1 hn] at h;cases h
  rw[decide_eq_true this];rfl
theorem MK (C:Plain G) {b:Nat} {ev:V} (hv:lA K g b iv ev fv pv) (E:nV g<=62) {s:Nat->Bool} {a:Nat} (B:a<nV g) (ar:H O K L):
  Ca G K L 233 [.ptr b 0,.int .u64 (.ofNat<|bL (nV g) s),nI a] O <| .bool (I6 g s a):=by
 refine V9 C Tryz.func233 Z<|Vw 2 Z<|kb ar (cH Z Z) (fun O b1 ar=>?_);refine kb ar (cH Z Z) (fun O b2 ar=>?_);obtain⟨K1,d,u,ar⟩:=ar.bF (M:=[_,_]);have h2:=u _ (mS_ ..);have h1:=u _ (mC_ _<|mS_ ..);clear u;replace hv:=hv.mono d;refine TE 7 Z (J Z (W4 Z (ar.cg h2) Z) Z (J Z (fE (j:=a) oM U U U Z) Z (J Z (ay (v:=.int .u64 (.ofNat (bL (nV g) s/2 ^ a))) Z Z<|wq oM) Z (J Z (ay (v:=.int .u64 (.ofNat (bL (nV g) s/2 ^ a &&& 1))) Z Z<|ss (Nat.lt_of_le_of_lt (Nat.div_le_self _ _)<|cX oM _) (by decide)) Z (J Z (ay (v:=.bool ((bL (nV g) s).testBit a)) Z Z (Fj)) Z<|Vy 2 Z<|aG Z (fun z=>?_) (fun z=>?_))))))
 ·refine Vx 7 Z ?_;exact aA Z Z ⟨cB (by unfold I6;rw[show s a=true from(gK B).symm.trans z];rfl),(ar).weaken d⟩
 refine UG 4 Z<|J Z (W4 Z (ar.cg h1) Z) Z<|J Z (W4 Z (ar.cg h2) Z) Z<|kx (W2 Z Z Z) (wT C hv B ar) (fun O ar=>?_);refine ky Z (an Z) (fun A=>?_) (fun A=>?_)
 ·refine vQ 1 Z<|J Z (W4 Z (ar.cg h1) Z) Z<|vQ 1 Z<|kx (W2 Z Z Z) (CB C hv E (fn:=257) (fi:=[]) (ca:=[_,_]) (p:=fun b=>jT g b a) U (fun i hi O L ar=>RY C hv hi B h1 h2 ar) ar) (fun O ar=>?_);refine J Z (ay (v:=.int .u64 (.ofNat<|bL (nV g) s &&& bL (nV g) (fun b=>jT g b a))) Z Z<|ss (cX oM _)<|cX oM _) Z<|VA 6 Z ?_;exact aA Z Z ⟨cB (by unfold I6;rw[show s a=false from(gK B).symm.trans z,show F (eu g a).kind 4=true from A];exact OB),(ar).weaken d⟩
 refine VA 11 Z ?_;exact aA Z Z ⟨cB (by unfold I6;rw[show s a=false from(gK B).symm.trans z,show F (eu g a).kind 4=false from A];rfl),(ar).weaken d⟩
theorem Tx (N:Plain G) {b:Nat} {ev:V} (hv:lA K g b iv ev fv pv) (S:dC g) (am:nV g<=62) {w i Q R:Nat} (hi:i<nV g) (h1:K Q (.row [.ptr b 0] 245 false)) (T:K R (.row [.int .u64 (.ofNat<|bL (nV g)<|mR g w)] 144 false)) (ar:H O K L):
  Ca G K L 230 [nI i,.ptr Q 0,.ptr R 0] O <| .bool (gH g w i):=by
 refine V9 N Tryz.func230 Z<|Vv 6 Z<|aL (l:=zp [0,1,2,3,4,5,6,7,8,9,10,11,12,13,14,15,16,17,18,19,20,21,22,23,24,25,26,27,28]) U U<|ah Z Z (W4 Z (ar.cg h1) Z) Z<|wQ 1 Z<|eL Z Z (W2 Z Z Z) (fun _=>Z) (Pt N hv hi ar) (fun O ar=>?_);refine⟨aT,?_⟩;refine e8 Z Z (an Z) (fun _=>Z) (fun u=>?_) (fun u=>?_)
 ·refine ah Z Z (W4 Z (ar.cg h1) Z) Z<|ah Z Z (cO Z) Z<|ah Z Z (W3 1 Z) Z<|ah Z Z (W4 Z (ar.cg hv.row) Z) Z<|wQ 1 Z<|WW (e:=38) (m:=5) hv.jv (eQ hi) Z Z Z Z Z (fun ao aa z ab A=>?_);obtain rfl:=A;refine dN z Z Z Z Z (k:=2) U (lb Z) (fun _=>Z) (fun ap B=>?_);refine ah Z Z (W7 ar B Z Z) Z<|Wj 2 Z<|e8 Z Z (an Z) (fun _=>Z) (fun d=>?_) (fun d=>?_)
  ·refine ah Z Z (W4 Z (ar.cg T) Z) Z<|ah Z Z (W4 Z (ar.cg h1) Z) Z<|ah Z Z (cO Z) Z<|ah Z Z (W3 2 Z) Z<|ah Z Z (W4 Z (ar.cg hv.row) Z) Z<|wQ 1 Z<|WW (e:=3) (m:=1) hv.from_ (qG hi) Z Z Z Z Z (fun aE ac C ak E=>?_);obtain rfl:=E;refine ah Z Z (W7 ar C Z Z) Z ?_;obtain⟨f,M,I,_⟩:=jL S hi u;refine ah Z Z (fE (j:=f) oM U U U<|cI I) Z (ah Z Z (ay (v:=.int .u64 (.ofNat (bL (nV g) (mR g w)/2 ^ f))) Z Z<|wq oM) Z (ah Z Z (ay (v:=.int .u64 (.ofNat (bL (nV g) (mR g w)/2 ^ f &&& 1))) Z Z<|ss (Nat.lt_of_le_of_lt (Nat.div_le_self _ _)<|cX oM _) (by decide)) Z (ah Z Z (ay (v:=.bool ((bL (nV g)<|mR g w).testBit f)) Z Z (Fj)) Z<|VC 5 Z ?_)));exact aA Z Z ⟨cB (by rw[xG,show cz (eu g i)=true from u,show F (eu g i).order 1=false from cY d,I];exact gK M),ar⟩
  refine VC 17 Z ?_;exact aA Z Z ⟨cB (by rw[xG,show cz (eu g i)=true from u,show F (eu g i).order 1=true from cD d];rfl),ar⟩
 refine VC 28 Z ?_;exact aA Z Z ⟨cB (by rw[xG,show cz (eu g i)=false from u];rfl),ar⟩
theorem Ty (d:Plain G) {b:Nat} {ev:V} (hv:lA K g b iv ev fv pv) (u:nV g<=62) {w i A B:Nat} (hi:i<nV g) (h1:K A (.row [.ptr b 0] 245 false)) (C:K B (.row [.int .u64 (.ofNat<|bL (nV g)<|gH g w)] 144 false)) (ar:H O K L):
  Ca G K L 231 [nI i,.ptr A 0,.ptr B 0] O <| .bool (qL g w i):=by
 refine V9 d Tryz.func231 Z<|Vw 7 Z<|J Z (W4 Z (ar.cg h1) Z) Z<|vQ 1 Z<|kx (W2 Z Z Z) (GO d hv hi ar) (fun O ar=>?_);refine ky Z (an Z) (fun z=>?_) (fun z=>?_)
 ·refine J Z (W4 Z (ar.cg h1) Z) Z<|J Z (W4 Z (ar.cg C) Z) Z<|vQ 1 Z<|kx (W2 Z Z Z) (MK d hv u hi ar) (fun O ar=>?_);refine VA 5 Z ?_;exact aA Z Z ⟨cB (by unfold qL;rw[show rM g i=true from z];rfl),ar⟩
 refine VA 9 Z ?_;exact aA Z Z ⟨cB (by unfold qL;rw[show rM g i=false from z];rfl),ar⟩
theorem Tz (A:Plain G) (aa:nV g<=62) {i:Nat} {rv:V} (hi:i<nV g) (hq:q<nV g) (B:K z (.row [rv] 165 false)) (C:bO K 1 RU (bC (nV g)<|vr g) rv) (ar:H O K L):
  Ca G K L 236 [nI i,nI q,.ptr z 0] O <| .bool (vr g i q):=by
 refine V9 A Tryz.func236 Z<|Vw 7 Z<|J Z (W4 Z (ar.cg B) Z) Z<|vQ 1 Z<|WV (e:=144) (m:=1) C (du hi) Z Z Z Z (fun p8 ab d ac u=>?_);obtain rfl:=u;refine J Z (W7 ar d Z Z) Z (vQ 1 Z (J Z (fE (j:=q) oM U U U Z) Z (J Z (ay (v:=.int .u64 (.ofNat (bL (nV g) (vr g i)/2 ^ q))) Z Z<|wq oM) Z (J Z (ay (v:=.int .u64 (.ofNat (bL (nV g) (vr g i)/2 ^ q &&& 1))) Z Z<|ss (Nat.lt_of_le_of_lt (Nat.div_le_self _ _)<|cX oM _) (by decide)) Z (J Z (ay (v:=.bool ((bL (nV g)<|vr g i).testBit q)) Z Z (Fj)) Z<|VA 4 Z ?_)))));exact aA Z Z ⟨cB<|gK hq,ar⟩
theorem Vu (E:Plain G) {b:Nat} {ev:V} (hv:lA K g b iv ev fv pv) (hR:dC g) (A:nV g<=62) (ar:H O K L):
  EC G 191 [.ptr b 0] O fun u O'=>∃K1 c,KP.le K K1/\u= .agg [nI<|nV g,.slice c 0 (nV g) (.known<|nV g)]/\H O' K1 ((c,.row ((bC (nV g)<|vr g).map gU) 144 false)::L):=by
 refine V9 E Tryz.func191 Z<|Vw 2 Z<|kb ar (cH Z Z) (fun O b1 ar=>?_);obtain⟨K1,S,T,ar⟩:=ar.bF (M:=[_]);have h1:=T _ (mS_ ..);clear T;replace hv:=hv.mono S;refine kb ar (W6 (cs:=[D,.av])) (fun O b2 ar=>?_);refine UK 4 Z<|J Z (W4 Z (ar.cg h1) Z) Z<|J Z (cO Z) Z<|J Z (W3 0 Z) Z<|J Z (W4 Z (ar.cg hv.row) Z) Z<|J Z (W5 hv.ids Z Z Z (e:=87) Z) Z<|fh ar Z (ie (e:=144) (w:=8) (z:=[gU 0]) U U U U (show _=some (V.int .i64 (.ofNat<|nV g)) from Z) (show _=some (V.int .i64 (.ofNat<|nV g)) from Z) oM oM) (fun _=>Z) (fun O b3 ar=>?_);rw[kG (f:=gU)] at ar;refine kb ar (W6 (cs:=[.av])) (fun O b4 ar=>?_);refine ks ar (Sx Z Z Z ar.g0 (m:=1) Z Z (cells':=[_]) Z) (fun O ar=>?_);refine TE 5 Z ?_;rw[s9,show bC (nV g) (fun _ _=>false)=bC (nV g) (IG g 0) from Z] at ar;refine J Z (W4 Z (ar.cg h1) Z) Z (J Z (cO Z) Z (J Z (W3 0 Z) Z (J Z (W4 Z (ar.cg hv.row) Z) Z (J Z (W5 hv.ids Z Z Z (e:=87) Z) Z (UI 4 Z (bk (rg 4 5++rg 20 65) (fun j t O=>∃(w:Nat),j+w=nV g/\t.get 20=some (nI w)/\H O K1 ((b4,.row [.slice b3 0 (nV g) (.known<|nV g)] 165 false)::(b3,.row ((bC (nV g)<|IG g w).map gU) 144 false)::(b2,.row [D,.av] 167 false)::L)) (nV g) ⟨0,Z,Z,ar⟩ ?_))))));clear ar;intro j3 t O ak hI;obtain⟨w,bc,ao,ar⟩:=hI;obtain⟨oo,rfl⟩:=ak.q1 ao Z;refine Vv 6 Z<|aG Z (fun X=>?_) (fun X=>?_)
 ·refine SF 6 Z ?_;have Q:w<nV g:=aM X;refine TE 7 Z<|J Z (W4 Z (ar.cg h1) Z) Z<|vQ 1 Z<|kx (W2 Z Z Z) (MS E hv Q ar) (fun O ar=>?_);refine J Z (dW Z) Z<|ky Z (an Z) (fun aa=>?_) (fun aa=>?_)
  ·refine UN 15 Z<|aN<|Wd 4 Z ?_;have cw:jt g w=false:=by rw[xH,show bz (eu g w)=false from cY aa];rfl
   rw[<-Fb cw] at ar;refine aD ⟨j3-1,by omega,oF,w+1,by omega,cI<|aX oM,ar⟩
  refine J Z (W4 Z (ar.cg h1) Z) Z<|J Z (cO Z) Z<|J Z (W3 1 Z) Z<|J Z (W4 Z (ar.cg hv.row) Z) Z<|vQ 1 Z<|WV (e:=38) (m:=5) hv.jv (eQ Q) Z Z Z Z (fun bd a9 ap ba aE=>?_);obtain rfl:=aE;refine de ap Z Z Z (k:=2) U (lb Z) (fun _=>Z) (fun be a0=>?_);refine J Z (W7 ar a0 Z Z) Z<|Vy 4 Z<|aG Z (fun ab=>?_) (fun ab=>?_)
  ·refine bn<|aR<|aN<|Wd 4 Z ?_;have cw:jt g w=false:=by rw[xH,show F (eu g w).order 1=true from ab];exact Bool.and_false _
   rw[<-Fb cw] at ar;refine aD ⟨j3-1,by omega,oF,w+1,by omega,cI<|aX oM,ar⟩
  refine UG 4 Z<|J Z (W4 Z (ar.cg h1) Z) Z<|vQ 1 Z<|kx (W2 Z Z Z) (GQ E hv hR A Q ar) (fun O ar=>?_);refine kb ar (W6 (cs:=[.int .u64 0])) (fun O b5 ar=>?_);refine ks ar (Sx Z Z Z ar.g0 (m:=1) Z Z (cells':=[_]) Z) (fun O ar=>?_);refine UK 4 Z<|J Z (W4 Z (ar.cg h1) Z) Z<|vQ 1 Z ?_;have hst0:=ar;have hstk:=H.keeps (M:=[_]) ar;refine kx (W2 Z Z Z) ((CB E (hv.mono<|KP.ey _ _) A (fn:=230) (fi:=[]) (ca:=[_,_]) U (fun i hi O L ar=>Tx E (hv.mono<|KP.ey _ _) hR (w:=w) A hi (KP.ey _ _ _ _ h1) (.inr<|mS_ ..) ar) hstk).mono fun v O' h=>⟨h.1,H.kY (M:=[_]) hst0 h.2⟩) (fun O ar=>?_);refine kb ar (W6 (cs:=[.int .u64 0])) (fun O b6 ar=>?_);refine ks ar (Sx Z Z Z ar.g0 (m:=1) Z Z (cells':=[_]) Z) (fun O ar=>?_);refine TF ar 7 [0] Z Z<|Vy 2 Z<|aG Z (fun a1=>?_) (fun a1=>?_)
  ·refine bn<|aR<|aN<|Wd 4 Z ?_;have ar:=ar.pop;have ar:=ar.pop;rw[<-NL (xM.1 (show F (.ofNat<|bL (nV g)<|gH g w) (.ofNat 0)=true from a1))] at ar;refine aD ⟨j3-1,by omega,oF,w+1,by omega,cI<|aX oM,ar⟩
  refine UG 4 Z<|J Z (W4 Z (ar.cg h1) Z) Z<|vQ 1 Z ?_;have hst0:=ar;have hstk:=H.keeps (M:=[_]) ar;refine kx (W2 Z Z Z) ((CB E (hv.mono<|KP.ey _ _) A (fn:=231) (fi:=[]) (ca:=[_,_]) U (fun i hi O L ar=>Ty E (hv.mono<|KP.ey _ _) (w:=w) A hi (KP.ey _ _ _ _ h1) (.inr<|mS_ ..) ar) hstk).mono fun v O' h=>⟨h.1,H.kY (M:=[_]) hst0 h.2⟩) (fun O ar=>?_);refine UK 5 Z ?_;rw[<-NM] at ar;refine J Z (W4 Z (ar.cg h1) Z) Z (J Z (cO Z) Z (J Z (W3 0 Z) Z (J Z (W4 Z (ar.cg hv.row) Z) Z (J Z (W5 hv.ids Z Z Z (e:=87) Z) Z (UI 4 Z (bk ([8]++rg 54 30) (fun j t O=>∃(r:Nat),j+r=nV g/\t.get 54=some (nI r)/\H O K1 ((b6,.row [.int .u64 (.ofNat<|bL (nV g)<|gH g w)] 144 false)::(b5,.row [.int .u64 (.ofNat<|bL (nV g)<|mR g w)] 144 false)::(b4,.row [.slice b3 0 (nV g) (.known<|nV g)] 165 false)::(b3,.row ((bC (nV g)<|zZ g w r).map gU) 144 false)::(b2,.row [D,.av] 167 false)::L)) (nV g) ⟨0,Z,Z,ar⟩ ?_))))));clear ar;intro I t O ak hI;obtain⟨r,bb,a2,ar⟩:=hI;obtain⟨oo,rfl⟩:=ak.q1 a2 Z;refine Vv 6 Z<|aG Z (fun ac=>?_) (fun ac=>?_)
  ·refine SF 6 Z ?_;have d:r<nV g:=aM ac;refine UK 6 Z<|J Z (W4 Z (ar.cg h1) Z) Z<|vQ 1 Z<|kx (W2 Z Z Z) (GP E hv d ar) (fun O ar=>?_);refine ky Z (an Z) (fun C=>?_) (fun C=>?_)
   ·refine Wh 3 Z<|ky Z (an Z) (fun N=>?_) (fun N=>?_)
    ·refine Vz 15 Z ?_;have cr:fV g w r=true:=by rw[pV,show pJ g r=true from C,show F (.ofNat r) (.ofNat w)=true from N];rfl
     refine Wk ar 2 [2] Z Z (J Z (eH (e:=144) (m:=1) U U Z Z d) Z (J Z (aw Z (ar.get 3 Z) U<|iX (du d) (by first | omega | rfl)) Z (vQ 1 Z (J Z (ay (v:=.int .u64 (.ofNat<|bL (nV g) (zZ g w r r) ||| bL (nV g) (qL g w))) Z Z<|wD (cX oM _)<|cX oM _) Z<|J Z (eH (e:=144) (m:=1) U U Z Z d) Z ?_))));refine iM ar (.there (.there (.there .here))) Z (aO Z Z Z (ar.get 3 Z) (m:=1) U Z (by rw[lM_];rw[bQ];omega) Z (cells':=((bC (nV g)<|zZ g w r).set r<|bL (nV g) (zZ g w r r) ||| bL (nV g) (qL g w)).map (gU)) (eZ (f:=gU) (v:=(bL (nV g) (zZ g w r r) ||| bL (nV g) (qL g w))) (by rw[bQ];exact d) (by first | omega | rfl))) Z (fun O ar=>?_);rw[IH cr] at ar;refine af<|az<|Wd 4 Z<|aD ⟨I-1,by omega,oF,r+1,by omega,cI<|aX oM,ar⟩
    refine J Z (W4 Z (ar.cg h1) Z) Z<|vQ 1 Z<|kx (W2 Z Z Z) (wT E hv d ar) (fun O ar=>?_);refine ky Z (an Z) (fun R=>?_) (fun R=>?_)
    ·refine J Z (W4 Z (ar.cg h1) Z) Z<|Wh 2 Z<|kx (W2 Z Z Z) (R1 E hv d Q ar) (fun O ar=>?_);refine Vy 5 Z<|aG Z (fun am=>?_) (fun am=>?_)
     ·refine ai Z ?_;have cr:fV g w r=true:=by rw[pV,show pJ g r=true from C,show F (.ofNat r) (.ofNat w)=false from N,show F (eu g r).kind 4=true from R];exact am
      refine Wk ar 2 [2] Z Z (J Z (eH (e:=144) (m:=1) U U Z Z d) Z (J Z (aw Z (ar.get 3 Z) U<|iX (du d) (by first | omega | rfl)) Z (vQ 1 Z (J Z (ay (v:=.int .u64 (.ofNat<|bL (nV g) (zZ g w r r) ||| bL (nV g) (qL g w))) Z Z<|wD (cX oM _)<|cX oM _) Z<|J Z (eH (e:=144) (m:=1) U U Z Z d) Z ?_))));refine iM ar (.there (.there (.there .here))) Z (aO Z Z Z (ar.get 3 Z) (m:=1) U Z (by rw[lM_];rw[bQ];omega) Z (cells':=((bC (nV g)<|zZ g w r).set r<|bL (nV g) (zZ g w r r) ||| bL (nV g) (qL g w)).map (gU)) (eZ (f:=gU) (v:=(bL (nV g) (zZ g w r r) ||| bL (nV g) (qL g w))) (by rw[bQ];exact d) (by first | omega | rfl))) Z (fun O ar=>?_);rw[IH cr] at ar;refine af<|az<|Wd 4 Z<|aD ⟨I-1,by omega,oF,r+1,by omega,cI<|aX oM,ar⟩
     refine aI<|az<|Wd 4 Z ?_;have cr:fV g w r=false:=by rw[pV,show pJ g r=true from C,show F (.ofNat r) (.ofNat w)=false from N,show F (eu g r).kind 4=true from R];exact am
     rw[<-CX cr] at ar;refine aD ⟨I-1,by omega,oF,r+1,by omega,cI<|aX oM,ar⟩
    refine UL 12 Z<|Wd 4 Z ?_;have cr:fV g w r=false:=by rw[pV,show pJ g r=true from C,show F (.ofNat r) (.ofNat w)=false from N,show F (eu g r).kind 4=false from R];rfl
    rw[<-CX cr] at ar;refine aD ⟨I-1,by omega,oF,r+1,by omega,cI<|aX oM,ar⟩
   refine UL 20 Z<|Wd 4 Z ?_;have cr:fV g w r=false:=by rw[pV,show pJ g r=false from C];rfl
   rw[<-CX cr] at ar;refine aD ⟨I-1,by omega,oF,r+1,by omega,cI<|aX oM,ar⟩
  refine UH 3 Z<|aN<|az<|Wd 4 Z ?_;have ar:=ar.pop;have ar:=ar.pop;have a4:r=nV g:=by have h:nV g<=r:=bK ac;omega
  subst a4;have cw:jt g w=true:=by rw[xH,show bz (eu g w)=true from cD aa,show F (eu g w).order 1=false from ab];rfl
  rw[Qh cw] at ar;refine aD ⟨j3-1,by omega,oF,w+1,by omega,cI<|aX oM,ar⟩
 refine UH 3 Z<|aN<|Vw 2 Z<|J Z (W4 Z (ar.cg h1) Z) Z<|vQ 1 Z ?_;have a5:w=nV g:=by have h:nV g<=w:=bK X;omega
 subst a5;rw[Qg] at ar;obtain⟨K2,W,B,ar⟩:=H.bF (M:=[_,_]) ar;have h4:=B _ (mS_ ..);have h3:=B _ (mC_ _<|mS_ ..);clear B;replace hv:=hv.mono W;have hrw:=dM h3 (bQ (nV g) _) oM;refine kw (W2 Z Z Z) (A0 E hv A (fn:=236) (fi:=[]) (ca:=[_]) U (fun i q hi hq O L ar=>Tz E A hi hq h4 hrw ar) ar) ?_;rintro _ O ⟨K3,b5,a3,rfl,ar⟩;refine gw ar Z (W9 Z Z Z ar.g1 Z) Z (fun O ar=>?_);refine VA 3 Z ?_;exact dh Z Z ar.g1 (m:=2) U Z ⟨K3,b5,KP.le_trans S<|KP.le_trans W a3,Z,ar.sub (.cons_cons _ (.cons _ (.refl _)))⟩
variable {es:List eP} {ck:Nat} {ko mo:Operand}
section
variable {κ β:Type} [DecidableEq κ]
inductive gp (kf:κ->V) (vf:β->V):List eP->List (κ×β)->Prop
 | nil:gp kf vf [] []
 | cons {e:eP} {k:κ} {v:β} {es:List eP} {m:List (κ×β)}:e.key=kf k->e.val=vf v->gp kf vf es m->gp kf vf (e::es) ((k,v)::m)
def Dq:List (κ×β)->κ->Nat->Option (Nat×β)
 | [],_,_=>none
 | (k',v)::m,k,i=>if k=k' then some (i,v) else Dq m k (i+1)
def ya:List (κ×β)->κ->β->List (κ×β)
 | [],k,v=>[(k,v)]
 | (k',w)::m,k,v=>if k=k' then(k',v)::m else(k',w)::ya m k v
theorem Ed:∀{m:List (κ×β)} {k:κ} {i:Nat},Dq m k i=none↔∀x∈m,x.1≠k
 | [],k,i=>by simp[Dq]
 | (k',v)::m,k,i=>by
  unfold Dq
  by_cases h:k=k'
  ·simp[h]
  rw[if_neg h,Ed];simp only[mQ_,forall_eq_or_imp];exact⟨fun hh=>⟨fun e=>h e.symm,hh⟩,fun hh=>hh.2⟩
theorem yb:∀{m:List (κ×β)} {k:κ} {v:β},(∀x∈m,x.1≠k)->ya m k v=m++[(k,v)]
 | [],k,v,_=>rfl
 | (k',w)::m,k,v,h=>by
  unfold ya;rw[if_neg fun e=>h (k',w) (mS_ ..) e.symm,yb fun x hx=>h x (mC_ _ hx)];rfl
variable {kf:κ->V} {vf:β->V}
theorem gp.snoc {m:List (κ×β)} (h:gp kf vf es m) {e:eP} {k:κ} {v:β} (u:e.key=kf k) (A:e.val=vf v):gp kf vf (es++[e]) (m++[(k,v)]):=by
 induction h with
 | nil=>exact .cons u A .nil
 | cons b c d ih=>exact .cons b c ih
theorem gp.put {m:List (κ×β)} (h:gp kf vf es m) {k:κ} {v w:β} {i:Nat}:∀{u:Nat},Dq m k u=some (i,w)->∃j,i=u+j/\∃e,es[j]? =some e/\e.key=kf k/\∀e':eP,e'.key=kf k->e'.val=vf v->gp kf vf (es.set j e') (ya m k v):=by
 induction h with
 | nil=>intro u hh;cases hh
 | @cons e k' v' es m b c d ih=>
  intro u hh;unfold Dq at hh
  by_cases hk:k=k'
  ·rw[if_pos hk] at hh;cases hh;subst hk;exact⟨0,Z,e,Z,b,fun e' h1 A=>by unfold ya;rw[if_pos Z];exact .cons h1 A d⟩
  rw[if_neg hk] at hh;obtain⟨j,rfl,e2,h1,A,B⟩:=ih hh;exact⟨j+1,by omega,e2,by simpa using h1,A,fun e' C h5=>by unfold ya;rw[if_neg hk];exact .cons b c<|B e' C h5⟩
structure Dv (P:Program) (t kt et:TypeId) (kf:κ->V) (vf:β->V) (z:β):Prop where
 ty:P.underlying t=some (.map kt et)
 plain:plainKey P kt=true
 shape:∀k,jP P kt (kf k)=true
 eq:∀a b,kV P kt (kf a) (kf b)=some (decide (a=b))
 same:∀a,sameKey (kf a) (kf a)=true
 zero:fJ P et=some (vf z)
variable {P:Program} {G:Cx} {ev:Operand->Option V} {O:aB} {t kt et:TypeId} {z:β}
theorem HU (hT:Dv P t kt et kf vf z) {k:κ} {m:List (κ×β)} (h:gp kf vf es m):∀i,nh P kt (kf k) es i=some ((Dq m k i).map fun x=>(x.1,vf x.2)):=by
 induction h with
 | nil=>intro i;rfl
 | @cons e k' v es m b c d ih=>
  intro i;have hq:kV P kt (kf k) e.key=some (decide (k=k')):=by rw[b];exact hT.eq k k'
  show(match kV P kt (kf k) e.key with
   | some true=>some (some (i,e.val))
   | some false=>nh P kt (kf k) es (i+1)
   | none=>none)=_
  rw[hq];unfold Dq
  by_cases hk:k=k'
  ·rw[decide_eq_true hk,if_pos hk];simp[c]
  rw[decide_eq_false hk,if_neg hk];exact ih (i+1)
theorem zG (hT:Dv P t kt et kf vf z) {b:Nat} {m:List (κ×β)} (hm:gp kf vf es m) (hb:O.m.get b=some (.map es ck)) {k:κ} (h1:ev mo=some (.map b)) (d:ev ko=some (kf k)):
  eo P G ev O (.lookup t mo ko false)= .val (vf (((Dq m k 0).map (·.2)).getD z)) O:=by
 have hf:=HU hT (k:=k) hm 0;refine zI Z ?_;simp only[gE,hT.ty,d,h1,hb,hT.plain,hT.shape k,Bool.and_self,cond_true,hf,hT.zero];cases Dq m k 0 with
 | none=>rfl
 | some x=>rfl
theorem SA (hT:Dv P t kt et kf vf z) {b:Nat} {m:List (κ×β)} (hm:gp kf vf es m) (hb:O.m.get b=some (.map es ck)) {k:κ} {v:β} (h1:ev mo=some (.map b)) (u:ev ko=some (kf k)) (A:ev xo=some (vf v)):
  ∃es' ck',eo P G ev O (.mapUpdate t mo ko xo)= .skip (O.setObj b (.map es' ck'))/\gp kf vf es' (ya m k v):=by
 have hf:=HU hT (k:=k) hm 0
 have key:∃es' ck',kM P O t (.map b) (kf k) (vf v)=some (O.setObj b (.map es' ck'))/\gp kf vf es' (ya m k v):=by
  unfold kM;rw[hT.ty];dsimp only;rw[hb];dsimp only;rw[hT.plain,hT.shape k];simp only[Bool.and_self,cond_true];rw[hf];cases d:Dq m k 0 with
  | none=>exact⟨_,_,Z,by rw[ep,yb<|Ed.1 d];exact hm.snoc Z Z⟩
  | some x=>
   obtain⟨i,w⟩:=x;obtain⟨j,hj,e,he,hk,hp⟩:=hm.put (v:=v) d;rw[nA_] at hj;subst hj
   show∃es' ck',(match nth es i with
     | some e=>bif sameKey e.key (kf k) then some (O.setObj b (.map (vo {key:=kf k,val:=vf v,born:=e.born} es i) ck)) else none
     | none=>none)=some (O.setObj b (.map es' ck'))/\_
   rw[fY,he];dsimp only;rw[hk,hT.same k];exact⟨_,_,Z,by unfold vo;rw[rG];exact hp _ Z Z⟩
 obtain⟨es',ck',B,h5⟩:=key;refine⟨es',ck',lQ Z ?_,h5⟩;simp only[gD,h1,u,A,B]
end
section
variable {κ β:Type} [DecidableEq κ] {kf:κ->V} {vf:β->V} {z:β}
variable {P:Program} {G:Cx} {n:Nat} {t:PT V} {O:aB} {K:KP} {L:Own} {Q:Ex->PT V->aB->Prop} {ops:Array Oper} {o:Oper} {l:List Oper}
end
variable {lp:List (Nat×List Nat)} {et kt:TypeId}
noncomputable instance idDec:DecidableEq bS:=fun _ _=>Classical.propDecidable _
def Cl (x:bS):V:=.agg (ints x.ints)
def gN (x:Int):V:=.int .i64 x
theorem LN:Dv Tryz.prog 267 87 3 Cl gN 0 where
 ty:=by kernel_rfl
 plain:=by kernel_rfl
 shape k:=by
  obtain⟨a,b⟩:=k;show jP Tryz.prog 87 (.agg<|ints [a,b])=true
  kernel_rfl
 eq a b:=by
  obtain⟨fs,hu⟩:=ja rj.ints
  have:kV Tryz.prog 87 (Cl a) (Cl b)=some (cC a.ints b.ints):=by
   unfold kV Cl;rw[hu];exact tE rj.ints Z Z
  rw[this,bS.same];rw[show cC a b=decide (a=b) from by rw[zd_,dt,decide_eq_true_iff]]
 same a:=by
  obtain⟨a,c⟩:=a;show nR (ints [a,c]) (ints [a,c])=true;exact ny _
 zero:=by kernel_rfl
def wy (l:List bS) (m:List (bS×Int)):Prop:=m.length=l.length/\∀n id,l[n]? =some id->m[n]? =some (id,Int.ofNat n)
theorem wy.nil:wy [] []:=⟨Z,fun n id h=>by simp at h⟩
theorem wy.mem {l:List bS} {m:List (bS×Int)} (h:wy l m) {x:bS×Int} (hx:x∈m):x.1∈l:=by
 obtain⟨n,hn⟩:=gO_ hx;have hl:=(gA.1 hn).1;rw[h.1] at hl;obtain⟨id,d⟩:=dc hl;have:=h.2 n id d
 grind
theorem wy.put {l:List bS} {m:List (bS×Int)} (h:wy l m) (hn:id∉l):wy (l++[id]) (ya m id (.ofNat l.length)):=by
 rw[yb fun x hx e=>hn (by rw[<-e];exact h.mem hx)];refine⟨by simp[h.1],fun n x hx=>?_⟩;rw[List.getElem?_append] at hx⊢;rw[h.1]
 by_cases hl:n<l.length
 ·rw[if_pos hl] at hx⊢;exact h.2 n x hx
 grind
theorem wy.get {l:List bS} {m:List (bS×Int)} (h:wy l m) (hd:∀(i j:Nat) (x:bS),l[i]? =some x->l[j]? =some x->i=j) {n:Nat} (hn:l[n]? =some id):((Dq m id 0).map (·.2)).getD 0= .ofNat n:=by
 have key:∀(m:List (bS×Int)) (k:Nat),(∀(i:Nat) (x:bS×Int),m[i]? =some x->x.1=id->x.2= .ofNat n)->(∃x∈m,x.1=id)->((Dq m id k).map (·.2)).getD 0= .ofNat n:=by
  intro m;induction m with
  | nil=>simp_all
  | cons x m ih=>
   intro k h1 h2;obtain⟨a,v⟩:=x;unfold Dq
   by_cases e:id=a
   ·rw[if_pos e];exact h1 0 (a,v) Z e.symm
   rw[if_neg e];refine ih (k+1) (fun i x hx=>h1 (i+1) x (by simpa using hx)) ?_
   grind
 refine key m 0 (fun i x hx he=>?_) ⟨_,gB_<|h.2 n id hn,Z⟩;have hl:=(gA.1 hx).1;rw[h.1] at hl;obtain⟨y,hy⟩:=dc hl;have:=h.2 i y hy
 grind
theorem H0 {g:XG} {l:List bS} {r:List bS} (h:gu g=l++id::r):id∉l:=fun hm=>by
 have hp:=LX (g:=g)
 grind
theorem LV {g:XG} {i:Nat} (h:i<g.init.length):∃r,gu g=iH g i 0 0++(⟨0,.ofNat i⟩:bS)::r:=by
 obtain⟨d,hd⟩:∃d,g.init.length=i+1+d:=⟨g.init.length-(i+1),by omega⟩;unfold gu iH;rw[hd,List.range_add,List.range_succ];refine⟨((List.range d).map (i+1+ ·)).map (fun i=>(⟨0,.ofNat i⟩:bS))++jh g.threads 0,?_⟩
 simp[jh]
theorem LW {g:XG} {t k:Nat} {row:List cm} (h:g.threads[t]? =some row) (hk:k<row.length):∃r,gu g=iH g g.init.length t k++(⟨.ofNat (t+1),.ofNat k⟩:bS)::r:=by
 obtain⟨r,d⟩:=yq (s:=0) h hk;rw[nA_] at d;unfold gu iH
 simp_all
section
variable {P:Program} {G:Cx} {K:KP} {n:Nat} {t:PT V} {O:aB} {ops:Array Oper} {o:Oper} {Q:Ex->PT V->aB->Prop} {κ β:Type} [DecidableEq κ] {kf:κ->V} {vf:β->V} {z:β}
theorem R0 {ty:TypeId} (hT:Dv P ty kt et kf vf z) {b i:Nat} {m:List (κ×β)} {u:Own} (hm:gp kf vf es m) (B:H O K u) (hb:O.m.get b=some (.map es ck)) (A:cN->Own) (hu:∀o',l8 b o' u<|A o') {k:κ} {v:β} {t':PT V} (d:ops[i]? =some o) (hw:bR ops t o=some true) (C:o.op= .mapUpdate ty mo ko xo)
  (h1:bI G t mo=some (.map b)) (E:bI G t ko=some (kf k)) (I:bI G t xo=some (vf v)) (hp:dE t n o.dst unit=some t')
  (h:∀O' es' ck',H O' K (A (.map es' ck'))->gp kf vf es' (ya m k v)->cR P G ops n lp t' O' Q):cR P G ops n ((i,[])::lp) t O Q:=by
 obtain⟨es',ck',e1,e2⟩:=SA (G:=G) hT hm hb h1 E I;exact eF B (hu _) d hw (by rw[C];exact e1) hp fun O' ar=>⟨aT,h O' es' ck' ar e2⟩
end
theorem I7 (n:Nat):dQ.beqL ((List.replicate n (0:Int)).map gN) ((List.replicate n (0:Int)).map gN)=true:=by
 induction n with
 | zero=>rfl
 | succ n ih=>exact cP (fe _ _) ih
theorem tK {K:KP} {l:List Int} {b n:Nat} {ro:Bool} (h:K b (.row (l.map gN) e ro)) (hn:l.length=n) (hle:n<=1000000):bO K 1 ek l (.slice b 0 n (.known n)):=by
 subst hn;refine .inr ⟨b,0,_,_,e,ro,Z,.inr ⟨_,Z,nR_ _⟩,h,by simp,by omega,fun i x hx=>?_⟩;obtain⟨h1,d⟩:=gA.1 hx;have u:i<(l.map gN).length:=by simp_all
 show((l.map gN).drop (0+i*1)).take 1= [gN x];rw[nA_,Nat.mul_one,zj_ u,List.getElem_map,d];rfl
theorem Iv {N i:Nat} {f:Nat->Int} {v:Int}:((List.range N).map f).set i v=(List.range N).map fun k=>if k=i then v else f k:=by
 refine zf_ fun k=>?_
 grind
section
variable {g:XG}
def kQ (g:XG) (i:Nat):List Int:=(List.range<|nV g).map fun k=>if k<i then fB g k else 0
def qA (g:XG) (i:Nat):List Int:=(List.range<|nV g).map fun k=>if k<i then(bif F (eT g k).bH 0 then 0 else-1) else 0
theorem rb {i:Nat}:(kQ g i).length=nV g:=by unfold kQ;simp
theorem tS {i:Nat}:(qA g i).length=nV g:=by unfold qA;simp
theorem Gn:kQ g 0=List.replicate (nV g) 0:=by
 refine zf_ fun k=>?_
 unfold kQ
 grind
theorem J1:qA g 0=List.replicate (nV g) 0:=by
 refine zf_ fun k=>?_
 unfold qA
 grind
theorem x8 {i:Nat}:(kQ g i).set i (fB g i)=kQ g (i+1):=by
 unfold kQ;rw[Iv]
 grind
theorem A5 {i:Nat}:(qA g i).set i (bif F (eT g i).bH 0 then 0 else-1)=qA g (i+1):=by
 unfold qA;rw[Iv]
 grind
theorem Jy:kQ g (nV g)=(List.range<|nV g).map (fB g):=by
 unfold kQ
 simp_all
theorem MY:qA g (nV g)=gj g 0 0:=by
 rw[GW];unfold qA
 simp_all
theorem Gm {i:Nat} {f:Int} (h:fB g i=f):((kQ g i).set i (-1)).set i f=kQ g (i+1):=by rw[List.set_set,<-h,x8]
theorem x5 {i:Nat} (h:fB g i= -1):(kQ g i).set i (-1)=kQ g (i+1):=by rw[<-h,x8]
theorem J0 {i:Nat} (h:F (eT g i).bH 0=true):((qA g i).set i (-1)).set i 0=qA g (i+1):=by rw[List.set_set,<-A5,h];rfl
theorem A4 {i:Nat} (h:F (eT g i).bH 0=false):(qA g i).set i (-1)=qA g (i+1):=by rw[<-A5,h];rfl
end
variable {bv:Nat} {vb vc vd:V}
theorem QU (S:Plain G) {I bm:Nat} (d:K bv (.row [.ptr E 0] 245 false)) (h5:K bm (.row [.map I] 267 false)) {e:cm} {ids:List bS} {jv:List cm} {ev:V} {M1:Own} {m:List (bS×Int)} (hm:gp Cl gN es m) (hO1:cy 2 87 dK ids iv M1) (hO2:cy 5 38 gG jv ev M) (aa:ids.length<=1000) (ab:jv.length<=1000)
  {O:aB} {L:Own} (ar:H O K (M1++(M++((E,.row [iv,ev,.av,.av] 266 false)::(I,.map es ck)::L)))):
  EC G 221 [.agg [.int .i64 id.bH,.int .i64 id.index],.agg [.int .i64 e.kind,.int .i64 e.loc,.int .i64 e.order,.int .i64 e.read,.int .i64 e.write],.ptr bv 0,.ptr bm 0] O fun _ O'=>∃iv' ev' u A es' ck',gp Cl gN es' (ya m id (.ofNat ids.length))/\cy 2 87 dK (ids++[id]) iv' u/\cy 5 38 gG (jv++[e]) ev' A/\H O' K (u++(A++((E,.row [iv',ev',.av,.av] 266 false)::(I,(.map es' ck'))::L))):=by
 refine V9 S Tryz.func221 Z<|Vw 2 Z<|kb ar (cH Z Z) (fun O b3 ar=>?_);refine kb ar (cH Z Z) (fun O b4 ar=>?_);refine UJ 3 Z<|aL (l:=zp [0,1,2,3,4,5,6,7]) U U<|ah Z Z (W4 Z (ar.cg h5) Z) Z<|ah Z Z (Xc Z ar.g1 Z) Z<|ah Z Z (W4 Z (ar.cg d) Z) Z<|ah Z Z (cO Z) Z<|ah Z Z (W3 0 Z) Z<|ah Z Z (W4 Z ar.pop.pop.bG.bG.g0 Z) Z<|ah Z Z (Dn hO1 Z Z Z (e:=87) U Z) Z<|R0 LN hm ar ar.pop.pop.bG.bG.pop.g0 _ (fun o'=>.there (.there (.bV (.bV (.there .here))))) (k:=id) (v:=.ofNat ids.length) Z Z Z Z Z Z Z (fun O es ck ar hm=>?_);refine VB 2 Z (al (aL (l:=[(0,[]),(1,[]),(2,[]),(3,[]),(4,[]),(5,[]),(6,[]),(7,[0]),(8,[]),(9,[]),(10,[])]) U U<|ah Z Z (W4 Z (ar.cg d) Z) Z<|ah Z Z (W4 Z (ar.cg d) Z) Z<|ah Z Z (cO Z) Z<|ah Z Z (W3 0 Z) Z<|ah Z Z (W4 Z ar.pop.pop.bG.bG.g0 Z) Z<|ah Z Z (Xc Z ar.g1 Z) Z<|gx ar Z Z (bN (e:=87) (m:=2) (z:=[D,D]) (cs:=[_,_]) U U U U<|aZ Z Z Z Z bE) (fun _=>Z) (fun O b5 ar=>?_)));replace ar:=ar.pull (.there (.there (.there<|bu.here (X:=M1))));replace ar:=ar.pull (.bV<|bu.here (X:=[_]));rw[za_] at ar;refine gP (R:=dK) (m:=2) (e:=87) hO1 ar (dn (m:=2) Z (show dK id _ from Z)) dK.leaf (by show _+1<=_;omega) Z Z Z Z Z Z Z Z (fun _=>Z) (fun O N B hO20 ar=>?_);refine⟨(bj (bx Z Z Z Z Z (W4 Z (ar.cg d) Z)<|xr _ _) aT),?_⟩;refine ah Z Z (cO Z) Z<|ah Z Z (W3 0 Z) Z<|eF ar (.bV (.there (.there (.bV .here)))) Z Z (aO Z Z hO20.leaf.1 ar.bG.pop.pop.bG.g0 (m:=1) U Z (lb Z) (aj hO20.leaf.2 aC) (cells':=[_,_,_,_]) Z) Z (fun O ar=>?_);refine⟨aT,?_⟩;refine VB 2 Z (aL (l:=[(0,[]),(1,[]),(2,[]),(3,[]),(4,[]),(5,[]),(6,[]),(7,[0]),(8,[]),(9,[]),(10,[])]) U U<|ah Z Z (W4 Z (ar.cg d) Z) Z<|ah Z Z (W4 Z (ar.cg d) Z) Z<|ah Z Z (cO Z) Z<|ah Z Z (W3 1 Z) Z<|ah Z Z (W4 Z ar.bG.pop.pop.bG.g0 Z) Z<|ah Z Z (Xe Z ar.bG.g0 Z) Z<|gx ar Z Z (bN (e:=38) (m:=5) (z:=[D,D,D,D,D]) (cs:=[_,_,_,_,_]) U U U U<|aZ Z Z Z Z bE) (fun _=>Z) (fun O b6 ar=>?_));replace ar:=ar.pull (.there (.bV (.there (.there<|bu.here (X:=M)))));replace ar:=ar.pull (.bV<|bu.here (X:=[_]));rw[za_] at ar;refine gP (R:=gG) (m:=5) (e:=38) hO2 ar (dn (m:=5) Z (show gG e _ from Z)) gG.leaf (by show _+1<=_;omega) Z Z Z Z Z Z Z Z (fun _=>Z) (fun O Q C hO30 ar=>?_);refine⟨(bj (bx Z Z Z Z Z (W4 Z (ar.cg d) Z)<|xr _ _) aT),?_⟩
 refine ah Z Z (cO Z) Z<|ah Z Z (W3 1 Z) Z<|eF ar (.bV (.bV (.there (.there .here)))) Z Z (aO Z Z hO30.leaf.1 ar.bG.bG.pop.pop.g0 (m:=1) U Z (lb Z) (aj hO30.leaf.2 aC) (cells':=[_,_,_,_]) Z) Z (fun O ar=>?_);refine⟨aT,?_⟩;refine aV ?_;replace ar:=ar.pull (.bV (.bV (.there (.there (.there<|bu.here (X:=[_]))))));rw[za_] at ar;replace ar:=ar.pull (.there (.bV (.bV (.there (.there<|bu.here (X:=[_]))))));rw[za_] at ar;replace ar:=ar.pull (.there (.there<|bu.here (X:=C)));replace ar:=ar.pull (.bV (.there (.there<|bu.here (X:=B))));replace ar:=ar.sub (eb<|eb (.cons_cons _ (.cons_cons _ (.cons _ (.cons _ (.refl _))))));exact⟨.inl Z,_,Z,N,Q,B,C,es,ck,hm,hO20,hO30,ar⟩
theorem MR (hG:Plain G) (hg:dS K g va vb vc vd) (ar:H O K L):
  EC G 183 [.agg [va,vb,vc,vd]] O fun v O'=>(F (ec g) 0=false/\v= .tuple [.nilPtr,.bool false]/\H O' K L)∨(dC g/\∃K1 b iv ev fv pv,v= .tuple [.ptr b 0,.bool true]/\KP.le K K1/\lA K1 g b iv ev fv pv/\H O' K1 L):=by
 refine V9 hG Tryz.func183 Z<|Vw 2 Z<|kb ar (cH Z Z) (fun O b1 ar=>?_);refine TE 7 Z<|J Z (Xd Z ar.g0 Z) Z<|kx (W2 Z Z Z) (Ql hG hg ar) (fun O ar=>?_);refine Vy 3 Z<|aG Z (fun a5=>?_) (fun a5=>?_)
 ·refine Vx 8 Z ?_;exact⟨.inr Z,_,qE Z Z Z,.inl ⟨cY a5,Z,ar.pop⟩⟩
 refine UG 4 Z ?_;have hR:=fl.1 (Lm<|cD a5);have hvl:=jQ hR;refine J Z (W1 (places:=[(0,1),(1,1),(2,1),(3,1)]) (zero:=[.av,.av,.av,.av]) (cs:=[_,_,_,_]) Z) Z<|kb ar (cH Z Z) (fun O b2 ar=>?_);refine kb ar (W6 (cs:=[.nilPtr])) (fun O b3 ar=>?_);refine ks ar (Sx Z Z Z ar.g0 (m:=1) Z Z (cells':=[_]) Z) (fun O ar=>?_);refine UK 4 Z<|QT ar Z Bz (fun _=>Z) (fun O b4 ar=>?_);refine kb ar (W6 (cs:=[.iw])) (fun O b5 ar=>?_);refine ks ar (Sx Z Z Z ar.g0 (m:=1) Z Z (cells':=[_]) Z) (fun O ar=>?_);refine UK 4 Z ?_;replace ar:=ar.pull (.there<|bu.here (X:=[_]));rw[za_] at ar;replace ar:=ar.pull (.there (.there (.there<|bu.here (X:=[_]))));rw[za_] at ar;replace ar:=ar.pull (.there (.there (.there (.there<|bu.here (X:=[_])))));rw[za_] at ar;replace ar:=ar.pull (.there (.there (.there (.there<|bu.here (X:=[_])))));rw[za_] at ar;replace ar:=ar.pull (.there (.there (.there (.there<|bu.here (X:=[_])))));rw[za_] at ar;obtain⟨K1,ap,d,ar⟩:=ar.bF (M:=[_,_,_]);have h5:=d _ (mS_ ..);have h3:=d _ (mC_ _<|mS_ ..);have hb:=d _ (mC_ _<|mC_ _<|mS_ ..);clear d;replace hg:=hg.mono ap;refine TF ar 8 [0] Z Z (J Z (W4 Z (ar.cg hb) Z) Z (J Z (W5 hg.init Z Z Z (e:=2) Z) Z (UI 4 Z (bk ([7,8]++rg 29 13) (fun j t O=>∃(i:Nat) (iv ev:V) (M1 Q:Own) (es:List eP) (ck:Nat) (m:List (bS×Int)),j+i=g.init.length/\gp Cl gN es m/\wy (iH g i 0 0) m/\cy 2 87 dK (iH g i 0 0) iv M1/\cy 5 38 gG ((iH g i 0 0).map fun id=>nf (dV g id)) ev Q/\t.get 29=some (nI i)/\H O K1 (M1++(Q++((b2,.row [iv,ev,.av,.av] 266 false)::(b4,.map es ck)::L)))) (g.init.length) ⟨0,.av,.av,[],[],[],0,[],Z,.nil,.nil,.inl ⟨Z,Z,Z⟩,.inl ⟨Z,Z,Z⟩,Z,ar⟩ ?_))));clear ar;intro j7 t O ak hI;obtain⟨i,iv,ev,M1,Q,es,ck,m,f6,hm,hn,hO1,hO2,b0,ar⟩:=hI;obtain⟨oo,rfl⟩:=ak.q1 b0 Z;refine Vv 6 Z<|aG Z (fun am=>?_) (fun am=>?_)
 ·refine SF 7 Z ?_;obtain⟨b9,aE,ee⟩:=di am;refine WV (e:=2) (m:=1) hg.init aE Z Z Z Z (fun f7 ef ca eg cb=>?_);obtain rfl:=cb;refine J Z (W7 ar ca Z Z) Z (Vz 7 Z (J Z (W1 (places:=[(0,1),(1,1)]) (zero:=[D,D]) (cs:=[_,_]) Z) Z (Wh 2 Z (J Z (W1 (places:=[(0,1),(1,1),(2,1),(3,1),(4,1)]) (zero:=[D,D,D,D,D]) (cs:=[_,_,_,_,_]) Z) Z ?_))));have hil:=aM am;have hle:=tL hR (i:=i) (t:=0) (k:=0) (by have:=hR.init;omega) oM oM;obtain⟨r0,a9⟩:=LV hil;have ba:dV g ⟨0,.ofNat i⟩=some ⟨2,.ofNat i,1,0,b9⟩:=by show(g.init[i]?).map _=_;rw[aE];rfl
  refine kw (W2 Z Z Z) (QU hG h3 h5 (id:=⟨0,.ofNat i⟩) (e:=⟨2,.ofNat i,1,0,b9⟩) hm hO1 hO2 oM (by rw[lM_];omega) ar) ?_;rintro f8 O ⟨iv',ev',bb,bc,es',ck',bd,hO1',hO2',ar⟩;have hn2:=hn.put (H0 a9);refine af<|az<|Wd 4 Z<|aD ⟨j7-1,by omega,oF,i+1,iv',ev',bb,bc,es',ck',_,by omega,bd,(Ch ▸ hn2),(Ch ▸ hO1'),(by rw[<-Ch,List.map_append];show cy 5 38 gG (_++[nf<|dV g _]) _ _;rw[ba];exact hO2'),cI<|aX (by have:=hR.init;omega),ar⟩
 refine UH 3 Z<|aN<|UO ar 4 [1] Z Z<|J Z (W4 Z (ar.cg hb) Z) Z<|J Z (W5 hg.threads Z Z Z (e:=25) Z) Z<|UI 4 Z ?_;have be:i=g.init.length:=by have:=bK am;omega
 subst be;refine bk (rg 9 4++rg 45 21) (fun j t O=>∃(tt:Nat) (iv ev:V) (M1 Q:Own) (es:List eP) (ck:Nat) (m:List (bS×Int)),j+tt=g.threads.length/\gp Cl gN es m/\wy (iH g g.init.length tt 0) m/\cy 2 87 dK (iH g g.init.length tt 0) iv M1/\cy 5 38 gG ((iH g g.init.length tt 0).map fun id=>nf (dV g id)) ev Q/\t.get 45=some (nI tt)/\H O K1 (M1++(Q++((b2,.row [iv,ev,.av,.av] 266 false)::(b4,.map es ck)::L)))) (g.threads.length) ⟨0,iv,ev,M1,Q,es,ck,m,Z,hm,hn,hO1,hO2,Z,ar⟩ ?_;clear ar;intro c4 t O ak hI;obtain⟨tt,iv,ev,M1,Q,es,ck,m,el,hm,hn,hO1,hO2,cc,ar⟩:=hI;obtain⟨oo,rfl⟩:=ak.q1 cc Z;refine Vv 6 Z<|aG Z (fun W=>?_) (fun W=>?_)
 ·refine SF 7 Z ?_;obtain⟨aa,A,em⟩:=di W;refine WV (e:=25) (m:=1) hg.threads A Z Z Z Z (fun f9 en cd er ce=>?_);have hr48':=ce;obtain⟨gc,rfl,a0⟩:=hr48';refine J Z (W7 ar cd Z Z) Z (UK 7 Z (J Z (W5 a0 Z Z Z (e:=38) Z) Z (UI 4 Z (bk ([11,12]++rg 52 13) (fun j t O=>∃(kk:Nat) (iv ev:V) (M1 Q:Own) (es:List eP) (ck:Nat) (m:List (bS×Int)),j+kk=aa.length/\gp Cl gN es m/\wy (iH g g.init.length tt kk) m/\cy 2 87 dK (iH g g.init.length tt kk) iv M1/\cy 5 38 gG ((iH g g.init.length tt kk).map fun id=>nf (dV g id)) ev Q/\t.get 52=some (nI kk)/\H O K1 (M1++(Q++((b2,.row [iv,ev,.av,.av] 266 false)::(b4,.map es ck)::L)))) (aa.length) ⟨0,iv,ev,M1,Q,es,ck,m,Z,hm,hn,hO1,hO2,Z,ar⟩ ?_))));clear ar;intro c5 t O ak hI;obtain⟨kk,iv,ev,M1,Q,es,ck,m,et,hm,hn,hO1,hO2,ch,ar⟩:=hI;obtain⟨oo,rfl⟩:=ak.q1 ch Z;refine Vv 6 Z<|aG Z (fun ao=>?_) (fun ao=>?_)
  ·refine SF 7 Z ?_;obtain⟨x55,a1,ex⟩:=di ao;refine WV (e:=38) (m:=5) a0 a1 Z Z Z Z (fun ge ez ci e0 cl=>?_);obtain rfl:=cl;refine J Z (W8 ar ci Z Z) Z<|kb ar (W6 (cs:=[D,D,D,D,D])) (fun O b6 ar=>?_);refine vQ 1 Z<|ks ar (Xb Z Z Z ar.g0 Z) (fun O ar=>?_);refine Vz 5 Z (J Z (ay (v:=nI (tt+1)) Z Z<|cI<|aX (by have:=hg.threads.cS;have:=aM W;omega)) Z (vQ 1 Z (J Z (W1 (places:=[(0,1),(1,1)]) (zero:=[D,D]) (cs:=[_,_]) Z) Z<|J Z (Xe Z ar.g0 Z) Z ?_)));replace ar:=ar.sub (.cons _<|eb<|eb (.cons_cons _ (.cons_cons _ (.refl _))));have hkl:=aM ao;have htl:=aM W;have hle:=tL hR (i:=g.init.length) (t:=tt) (k:=kk) hR.init (by have:=hR.short tt aa A;omega) (by have:=hR.threads;omega);obtain⟨r0,a9⟩:=LW A hkl;have ba:dV g ⟨.ofNat (tt+1),.ofNat kk⟩=some x55:=by rw[jJ,A];exact a1
   refine kw (W2 Z Z Z) (QU hG h3 h5 (id:=⟨.ofNat (tt+1),.ofNat kk⟩) (e:=x55) hm hO1 hO2 oM (by rw[lM_];omega) ar) ?_;rintro gl O ⟨iv',ev',bb,bc,es',ck',bd,hO1',hO2',ar⟩;have hn2:=hn.put (H0 a9);refine af<|az<|Wd 4 Z<|aD ⟨c5-1,by omega,oF,kk+1,iv',ev',bb,bc,es',ck',_,by omega,bd,(yl ▸ hn2),(yl ▸ hO1'),(by rw[<-yl,List.map_append];show cy 5 38 gG (_++[nf<|dV g _]) _ _;rw[ba];exact hO2'),cI<|aX (by have:=hR.short tt aa A;omega),ar⟩
  refine UH 3 Z<|aN<|az<|Wd 4 Z ?_;have htl:=aM W;have c6:kk=aa.length:=by have:=bK ao;omega
  subst c6;rw[Gq A] at hn hO1 hO2;refine aD ⟨c4-1,by omega,oF,tt+1,iv,ev,M1,Q,es,ck,m,by omega,hm,hn,hO1,hO2,cI<|aX (by have:=hR.threads;omega),ar⟩
 refine UH 3 Z (aN (ad (al (aL (l:=[(0,[]),(1,[]),(2,[]),(3,[]),(4,[]),(5,[]),(6,[]),(7,[]),(8,[]),(9,[]),(10,[]),(11,[]),(12,[]),(13,[]),(14,[]),(15,[]),(16,[1,13]),(17,[]),(18,[]),(19,[])]) U U ?_))));have c7:g.threads.length<=tt:=bK W;rw[yj c7] at hn hO1 hO2;obtain⟨K2,cn,co,ar⟩:=ar.bF (M:=M1);obtain⟨K3,a2,cp,ar⟩:=ar.bF (M:=Q);have E:bO K3 2 dK (gu g) iv:=hO1.fg fun y hy=>a2 _ _ (co y hy)
 have a3:bO K3 5 gG (zR g) ev:=hO2.fg fun y hy=>cp y hy
 have hle23:=KP.le_trans cn a2;replace h5:=hle23 _ _ h5;replace h3:=hle23 _ _ h3;replace hb:=hle23 _ _ hb;replace hg:=hg.mono hle23;clear co cp;refine ah Z Z (W4 Z (ar.cg h3) Z) Z (ah Z Z (W4 Z (ar.cg h3) Z) Z (ah Z Z (W4 Z (ar.cg h3) Z) Z (ah Z Z (cO Z) Z (Wl ar 2 [0,0] Z Z (ah Z Z (W5 E Z Z Z (e:=87) Z) Z (gx ar Z Z (ie (e:=3) (w:=8) (z:=[gN (0:Int)]) U U U U (show _=some (V.int .i64 (.ofNat<|nV g)) from Z) (show _=some (V.int .i64 (.ofNat<|nV g)) from Z) oM oM) (fun _=>Z) (fun O b6 ar=>?_)))))));rw[kG (f:=gN)] at ar;refine ah Z Z (W4 Z (ar.cg h3) Z) Z (ah Z Z (cO Z) Z (Wl ar 2 [0,1] Z Z (ah Z Z (W5 E Z Z Z (e:=87) Z) Z (gx ar Z Z (ie (e:=3) (w:=8) (z:=[gN (0:Int)]) U U U U (show _=some (V.int .i64 (.ofNat<|nV g)) from Z) (show _=some (V.int .i64 (.ofNat<|nV g)) from Z) oM oM) (fun _=>Z) (fun O b7 ar=>?_)))));rw[kG (f:=gN)] at ar;refine ah Z Z (cO Z) Z<|ah Z Z (W3 2 Z) Z<|MP ar Z Z (Sx Z Z Z (ar.get 2 Z) (m:=1) Z Z (cells':=[_,_,_,_]) Z) Z (fun O ar=>?_);refine⟨(bj (bx Z Z Z Z Z (W4 Z (ar.cg h3) Z)<|xr _ _) (bj (oC Z Z Z Z Z ((mV (e:=3) (w:=8) (z:=[gN (0:Int)]) U U U U (show _=some (V.int .i64 (.ofNat<|nV g)) from Z) (show _=some (V.int .i64 (.ofNat<|nV g)) from Z) oM oM).trans (by rw[kG (f:=gN)])) ar.g0<|I7 _) aT)),?_⟩;refine ah Z Z (cO Z) Z<|ah Z Z (W3 3 Z) Z<|MP ar Z Z (Sx Z Z Z (ar.get 2 Z) (m:=1) Z Z (cells':=[_,_,_,_]) Z) Z (fun O ar=>?_);refine⟨aT,?_⟩;refine VB 2 Z<|UE 3 Z ?_;replace ar:=ar.pull (.there (.there (.there<|bu.here (X:=[_]))));rw[za_] at ar;replace ar:=ar.pull (.there (.there<|bu.here (X:=[_])));rw[za_] at ar;replace ar:=ar.pull (.there (.there<|bu.here (X:=[_])));rw[za_] at ar;replace ar:=ar.pull (.there (.there (.there<|bu.here (X:=[_]))));rw[za_] at ar;replace ar:H O K3 ((b2,.row [iv,ev,.slice b6 0 (nV g) (.known<|nV g),.slice b7 0 (nV g) (.known<|nV g)] 266 false)::(b7,.row ((qA g 0).map gN) 3 false)::(b6,.row ((kQ g 0).map gN) 3 false)::(b4,.map es ck)::L):=by rw[J1,Gn];exact ar
 refine J Z (W4 Z (ar.cg h3) Z) Z (J Z (cO Z) Z (Wk ar 2 [0,0] Z Z (J Z (W5 E Z Z Z (e:=87) Z) Z (UI 4 Z (bk ([13,14]++rg 89 49) (fun j t O=>∃(i:Nat),j+i=nV g/\t.get 89=some (nI i)/\H O K3 ((b2,.row [iv,ev,.slice b6 0 (nV g) (.known<|nV g),.slice b7 0 (nV g) (.known<|nV g)] 266 false)::(b7,.row ((qA g i).map gN) 3 false)::(b6,.row ((kQ g i).map gN) 3 false)::(b4,.map es ck)::L)) (nV g) ⟨0,Z,Z,ar⟩ ?_)))));clear ar;intro bf t O ak hI;obtain⟨i,e3,cr,ar⟩:=hI;obtain⟨oo,rfl⟩:=ak.q1 cr Z;refine Vv 6 Z<|aG Z (fun bg=>?_) (fun bg=>?_)
 ·refine SF 6 Z ?_;have u:i<nV g:=aM bg;refine vQ 1 Z<|WV (e:=87) (m:=2) E (eE u) Z Z Z Z (fun gr e4 cv e5 cw=>?_);obtain rfl:=cw;refine J Z (W8 ar cv Z Z) Z<|kb ar (W6 (cs:=[D,D])) (fun O b8 ar=>?_);refine vQ 1 Z<|ks ar (W9 Z Z Z ar.g0 Z) (fun O ar=>?_);refine UJ 3 Z (aL (l:=zp [0,1,2,3,4,5,6,7,8,9,10,11,12,13]) U U (ah Z Z (W4 Z (ar.cg h3) Z) Z (ah Z Z (cO Z) Z (Wl ar 3 [2,1] Z Z (ah Z Z (W4 Z (ar.cg h3) Z) Z (ah Z Z (cO Z) Z (Wl ar 3 [3,1] Z Z (ah Z Z (eH (e:=3) (m:=1) U U Z Z u) Z (eF ar (.there (.there (.there .here))) Z Z (aO Z Z Z (ar.get 3 Z) (m:=1) U Z (by rw[lM_];rw[rb];omega) Z (cells':=((kQ g i).set i (-1)).map (gN)) (eZ (f:=gN) (v:=(-1)) (by rw[rb];exact u) (by first | omega | rfl))) Z (fun O ar=>?_))))))))));refine⟨aT,?_⟩;refine ah Z Z (eH (e:=3) (m:=1) U U Z Z u) Z (eF ar (.there (.there .here)) Z Z (aO Z Z Z (ar.get 2 Z) (m:=1) U Z (by rw[lM_];rw[tS];omega) Z (cells':=((qA g i).set i (-1)).map (gN)) (eZ (f:=gN) (v:=(-1)) (by rw[tS];exact u) (by first | omega | rfl))) Z (fun O ar=>?_));refine⟨aT,?_⟩;refine VB 2 Z<|VE ar 5 [0,0] Z Z<|Vy 2 Z<|aG Z (fun I=>?_) (fun I=>?_)
  ·refine ai Z (J Z (W4 Z (ar.cg h3) Z) Z (J Z (cO Z) Z (Wk ar 3 [3,1] Z Z (J Z (eH (e:=3) (m:=1) U U Z Z u) Z (iM ar (.there (.there .here)) Z (aO Z Z Z (ar.get 2 Z) (m:=1) U Z (by rw[lM_];rw[zg_,tS];omega) Z (cells':=(((qA g i).set i (-1)).set i 0).map (gN))<|eZ (f:=gN) (v:=0) (by rw[zg_,tS];exact u) (by first | omega | rfl)) Z (fun O ar=>?_))))));refine af<|az<|Wd 4 Z ?_;have ar:=ar.pop;rw[J0 I,x5<|sS<|D7 u I] at ar;refine aD ⟨bf-1,by omega,oF,i+1,by omega,cI<|aX oM,ar⟩
  refine Vw 2 Z<|J Z (W4 Z (ar.cg h3) Z) Z<|vQ 1 Z ?_;replace ar:=ar.pull (.there<|bu.here (X:=[_]));rw[za_] at ar;have hst0:=ar;have hstk:=H.keeps (M:=[_]) ar;refine kx (W2 Z Z Z) ((EF hG (.inr<|mS_ ..) (a3.mono (KP.ey _ _) fun _ _ h=>h) u hstk).mono fun v O' h=>⟨h.1,H.kY (M:=[_]) hst0 h.2⟩) (fun O ar=>?_);rw[za_] at ar;replace ar:=ar.pull (.there<|bu.here (X:=[_]));rw[za_] at ar;refine Vy 2 Z<|aG Z (fun S=>?_) (fun S=>?_)
  ·refine aL (l:=zp [0,1,2,3,4,5,6,7,8,9,10,11,12,13,14,15,16,17,18,19]) U U ?_;obtain⟨t2,k2,fd,e2,frow,q,d1,d2,d3,d4,d5,d6,d7,_⟩:=HW hR u S;obtain⟨fn,fi,cx,c0⟩:=LK hR u S;have c8:fB g i=((Dq m q 0).map (·.2)).getD 0:=by rw[cx,hn.get (fun i j x h1 h2=>tM h1 h2) (by rw[c0,d7])]
   refine ah Z Z (W4 Z (ar.cg h3) Z) Z (ah Z Z (cO Z) Z (Wl ar 3 [2,1] Z Z (ah Z Z (W4 Z (ar.cg h5) Z) Z (ah Z Z (W3 2 Z) Z (ah Z Z (W4 Z (ar.cg hb) Z) Z (Wl ar 2 [0,0] Z Z (ah Z Z (ay (v:=nI t2) Z Z (by rw[d1];exact cI (fD (by have:=(gA.1 d2).1;have:=hR.threads;omega)))) Z<|WW (e:=42) (m:=1) hg.from_ d5 Z Z Z Z Z (fun fk c9 bi dd bl=>?_))))))));have hr129':=bl;obtain⟨fs,rfl,bm⟩:=hr129';refine ah Z Z (W7 ar bi Z Z) Z<|Wl ar 2 [1,0] Z Z<|WW (e:=87) (m:=2) bm d6 Z Z Z Z (cI<|congrArg bS.index d1) (fun f0 df bo dk bp=>?_);obtain rfl:=bp;refine ah Z Z (W8 ar bo Z Z) Z<|ah Z Z (zG LN hm (ar.get 4 Z) (k:=q) Z Z) Z<|ah Z Z (eH (e:=3) (m:=1) U U Z Z u) Z ?_;refine eF ar (.there (.there (.there .here))) Z Z (aO Z Z Z (ar.get 3 Z) (m:=1) U Z (by rw[lM_];rw[zg_,rb];omega) Z (cells':=(((kQ g i).set i (-1)).set i (((Dq m q 0).map (·.2)).getD 0)).map (gN)) (eZ (f:=gN) (v:=(((Dq m q 0).map (·.2)).getD 0)) (by rw[zg_,rb];exact u) (by first | omega | rfl))) Z (fun O ar=>?_)
   refine⟨aT,?_⟩;refine aV<|az<|Wd 4 Z ?_;have ar:=ar.pop;rw[A4 I,Gm c8] at ar;refine aD ⟨bf-1,by omega,oF,i+1,by omega,cI<|aX oM,ar⟩
  refine aI<|az<|Wd 4 Z ?_;have ar:=ar.pop;rw[A4 I,x5<|sS S] at ar;refine aD ⟨bf-1,by omega,oF,i+1,by omega,cI<|aX oM,ar⟩
 refine UH 3 Z<|aN<|UE 3 Z ?_;have be:i=nV g:=by have h:nV g<=i:=bK bg;omega
 subst be;rw[Jy,MY] at ar;refine J Z (W3 3 Z) Z (J Z (W4 Z (ar.cg hb) Z) Z (J Z (W5 hg.order Z Z Z (e:=42) Z) Z (UI 4 Z (bk ([16,17,18]++rg 141 23) (fun j t O=>∃(a:Nat),j+a=g.order.length/\t.get 141=some (nI a)/\H O K3 ((b2,.row [iv,ev,.slice b6 0 (nV g) (.known<|nV g),.slice b7 0 (nV g) (.known<|nV g)] 266 false)::(b7,.row ((gj g a 0).map gN) 3 false)::(b6,.row (((List.range<|nV g).map<|fB g).map gN) 3 false)::(b4,.map es ck)::L)) (g.order.length) ⟨0,Z,Z,ar⟩ ?_))));clear ar;intro dl t O ak hI;obtain⟨a,f1,bq,ar⟩:=hI;obtain⟨oo,rfl⟩:=ak.q1 bq Z;refine Vv 6 Z<|aG Z (fun T=>?_) (fun T=>?_)
 ·refine SF 6 Z ?_;obtain⟨ab,B,dm⟩:=di T;refine WV (e:=42) (m:=1) hg.order B Z Z Z Z (fun f2 dr bs ds bt=>?_);have hr143':=bt;obtain⟨f3,rfl,C⟩:=hr143';refine J Z (W7 ar bs Z Z) Z (UK 6 Z (J Z (W5 C Z Z Z (e:=87) Z) Z (UI 4 Z (bk ([17,18]++rg 147 16) (fun j t O=>∃(c:Nat),j+c=ab.length/\t.get 147=some (nI c)/\H O K3 ((b2,.row [iv,ev,.slice b6 0 (nV g) (.known<|nV g),.slice b7 0 (nV g) (.known<|nV g)] 266 false)::(b7,.row ((gj g a c).map gN) 3 false)::(b6,.row (((List.range<|nV g).map<|fB g).map gN) 3 false)::(b4,.map es ck)::L)) (ab.length) ⟨0,Z,Z,ar⟩ ?_))));clear ar;intro dx t O ak hI;obtain⟨c,f4,bv,ar⟩:=hI;obtain⟨oo,rfl⟩:=ak.q1 bv Z;refine Vv 6 Z<|aG Z (fun N=>?_) (fun N=>?_)
  ·refine SF 7 Z ?_;obtain⟨a4,R,d0⟩:=di N;refine WV (e:=87) (m:=2) C R Z Z Z Z (fun f5 d8 bw d9 bD=>?_);obtain rfl:=bD;refine J Z (W8 ar bw Z Z) Z<|kb ar (W6 (cs:=[D,D])) (fun O b8 ar=>?_);refine vQ 1 Z<|ks ar (W9 Z Z Z ar.g0 Z) (fun O ar=>?_);refine Vy 2 Z<|aL (l:=zp [0,1,2,3,4,5,6,7,8,9,10]) U U ?_;obtain⟨nn,bH,c1,c2,_,_⟩:=AX hR B R;have c3:((Dq m a4 0).map (·.2)).getD 0= .ofNat nn:=hn.get (fun i j x h1 h2=>tM h1 h2) c1
   refine ah Z Z (W4 Z (ar.cg h3) Z) Z (ah Z Z (cO Z) Z (Wl ar 2 [3,1] Z Z (ah Z Z (W4 Z (ar.cg h5) Z) Z (ah Z Z (Xc Z ar.g0 Z) Z (ah Z Z (zG LN hm (ar.get 4 Z) (k:=a4) Z Z) Z (wQ 1 Z (ah Z Z (ay (v:=nI (c+1)) Z Z<|cI<|aX (by have:=C.cS;have:=aM N;omega)) Z (ah Z Z (eH (e:=3) (m:=1) U U Z (cI c3) bH) Z (eF ar (.there (.there .here)) Z Z (aO Z Z Z (ar.get 2 Z) (m:=1) U Z (by rw[lM_];rw[mA];omega) Z (cells':=((gj g a c).set nn (.ofNat (c+1))).map (gN)) (eZ (f:=gN) (v:=(.ofNat (c+1))) (by rw[mA];exact bH) (by first | omega | rfl))) Z (fun O ar=>?_))))))))));refine⟨aT,?_⟩;rw[GX hR B R bH c2] at ar;refine aV<|az<|Wd 4 Z ?_;have ar:=ar.pop;have hcl:=aM N;refine aD ⟨dx-1,by omega,oF,c+1,by omega,cI<|aX (by have:=C.cS;omega),ar⟩
  refine UH 3 Z<|aN<|az<|Wd 4 Z ?_;have hal:=aM T;have ea:c=ab.length:=by have:=bK N;omega
  subst ea;rw[EJ B] at ar;refine aD ⟨dl-1,by omega,oF,a+1,by omega,cI<|aX (by have:=hg.order.cS;omega),ar⟩
 refine UH 3 Z<|aN<|Vw 2 Z<|J Z (W4 Z (ar.cg h3) Z) Z<|VA 5 Z ?_;replace ar:=ar.pull (.there (.there (.there<|bu.here (X:=[_]))));rw[za_] at ar;replace ar:=ar.pull (.there (.there (.there<|bu.here (X:=[_]))));rw[za_] at ar;replace ar:=ar.pull (.there (.there (.there<|bu.here (X:=[_]))));rw[za_] at ar;replace ar:=ar.pull (.there (.there (.there<|bu.here (X:=[_]))));rw[za_] at ar;rw[GV hR<|bK T] at ar;obtain⟨K4,ac,d,ar⟩:=ar.bF (M:=[_,_,_]);have k2:=d _ (mS_ ..);have k8:=d _ (mC_ _<|mS_ ..);have k7:=d _ (mC_ _<|mC_ _<|mS_ ..);clear d;exact⟨.inr Z,_,qE Z Z Z,.inr ⟨hR,K4,b2,iv,ev,_,_,Z,KP.le_trans ap<|KP.le_trans hle23 ac,⟨k2,E.mono ac fun _ _ h=>h,a3.mono ac fun _ _ h=>h,tK k7 (by simp) oM,tK k8 (by simp) oM⟩,ar.pop⟩⟩
structure l7 (K:KP) (g:XG) (u0 u1 u2 u3 ue up ul us uh:V):Prop where
 po:bO K 1 RU (bC (nV g)<|jT g) u0
 rf:bO K 1 RU (bC (nV g)<|tf g) u1
 co:bO K 1 RU (bC (nV g)<|rY g) u2
 fr:bO K 1 RU (bC (nV g)<|uF g) u3
 QF:bO K 1 RU (bC (nV g)<|lz (nV g)<|jR [tf g,rY g,uF g]) ue
 GY:bO K 1 RU (bC (nV g)<|lz (nV g)<|jR [jT g,tf g]) up
 loc:bO K 1 RU (bC (nV g)<|sU g) ul
 sw:bO K 1 RU (bC (nV g)<|vr g) us
 hb:bO K 1 RU (bC (nV g)<|lz (nV g)<|jR [jT g,vr g]) uh
theorem l7.mono {K K':KP} {g:XG} {d u z A ue up ul us uh:V} (h:l7 K g d u z A ue up ul us uh) (hk:KP.le K K'):l7 K' g d u z A ue up ul us uh:=⟨h.po.mono hk fun _ _ h=>h,h.rf.mono hk fun _ _ h=>h,h.co.mono hk fun _ _ h=>h,h.fr.mono hk fun _ _ h=>h,h.QF.mono hk fun _ _ h=>h,h.GY.mono hk fun _ _ h=>h,h.loc.mono hk fun _ _ h=>h,h.sw.mono hk fun _ _ h=>h,h.hb.mono hk fun _ _ h=>h⟩
def Hs:List V:=[.int .i64 0,.av,.int .i64 0,.av,.int .i64 0,.av,.int .i64 0,.av,.int .i64 0,.av,.int .i64 0,.av,.int .i64 0,.av,.int .i64 0,.av,.int .i64 0,.av]
def fp (n:Nat) (u0 u1 u2 u3 ue up ul us uh:V):List V:=[.int .i64 (.ofNat n),u0,.int .i64 (.ofNat n),u1,.int .i64 (.ofNat n),u2,.int .i64 (.ofNat n),u3,.int .i64 (.ofNat n),ue,.int .i64 (.ofNat n),up,.int .i64 (.ofNat n),ul,.int .i64 (.ofNat n),us,.int .i64 (.ofNat n),uh]
def gI (m:Int) (g:XG):Bool:=bif F (.ofNat (eG m).length) 0 then false else cL (tc m g)
def xI (m:Int):Int:=bif F (.ofNat (eG m).length) 0 then 2 else 0
end Go.Ev
end
