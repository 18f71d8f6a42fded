/- Part of the proof: an evaluator of the model's code, rules for walks on it, walks. Without conditions. -/
import Derived.Test.YtpomgjnfncgkgaaGreatDoorEb
import Derived.Test.YtpomgjnfncgkgaaGreatDoorProg
import Derived.KernelRfl
import Derived.ReadAgain
import Derived.ProofKit
set_option linter.unusedSectionVars false
set_option linter.unusedVariables false
set_option linter.unusedSimpArgs false
noncomputable section
namespace Go.Ev
variable [Env]
section
variable {P:Program} {G:Cx}
def vj (P:Program) (G:Cx) (f:Nat) (args:List V) (O:N) (R:V->N->Prop):Prop:=
 ∃(K:Nat) (v:V) (O':N),(∀k,K<=k->kM P G (eH P G k) f args O= .ret v O')/\R v O'
theorem BR {f:Nat} {fn:Func} {c:Code} {args:List V} {O:N} {R:V->N->Prop} {t:PT V} (hf:P.funcs[f]?=some fn) (hb:fn.body=some c) (b:ra fn.ntmps args=some t)
  (h:Ev P G c fn.ntmps t O (zT P fn R)):vj P G f args O R:=by
 obtain⟨K,e,t',O',h1,he,v,h2,h3⟩:=h;refine⟨K,v,O',fun k hk=>?_,h3⟩;unfold kM;rw[hf];dsimp only;rw[hb,b];dsimp only;rw[h1 k hk];rcases he with rfl | rfl<;>
 ·dsimp only;unfold xZ;rw[show wO P G (eH P G k) [] .ret O'=some (.ret,O') from Z]
  simp_all
theorem Fk {f:Nat} {args:List V} {O:N} {k:Nat} (ab:G.HS f args O=none) (ac:G.HU f args=none) (aa:G.stop f args O=none) (am:G.fk f=true):
  lY P G (eH P G k) f args O=sd (pG P G (eH P G k) f args O):=by
 grind [lY]
theorem sM {f:Nat} {args:List V} {O:N} {R:V->N->Prop} (b:Plain G) (d:G.fk f=true) (he:∀ih,pG P G ih f args O=kM P G ih f args O) (h:vj P G f args O R) (hl:Ej f=false:=by rfl):a8 P G f args O R:=by
 obtain⟨K,v,O',h1,u⟩:=h;refine⟨K,v,O',fun k hk=>?_,u⟩;rw[Fk (b.h1 _ _ _) (b.h2 _ _ hl) (b.h4 _ _ _) d,he,h1 k hk];rfl
theorem oq:∀(l:List Int),kA (ints l) (ints l)=true
 | []=>rfl
 | x::l=>by
  show(bif (sy .i64 .i64 && H x x) then kA (ints l) (ints l) else false)=true;rw[oq l,dK];simp[sy]
theorem nZ:∀(l:List Int),eL (ints l)=true
 | []=>rfl
 | x::l=>by
  show(bif mS (.int .i64 x) then eL (ints l) else false)=true;rw[nZ l];rfl
theorem uL:∀(l:List Int),(ints l).length=l.length
 | []=>rfl
 | x::l=>by show(ints l).length+1=l.length+1;rw[uL l]
theorem wB {vb ve e sz d n1:Nat} {vc rs:List Int} {c:ql} {u:N} {b:List V} {ok:ql->Nat->Bool} (w:ok c n1=true) (aa:d≠vb) (h1:u.m.get d=some (.row b e false)) (z:u.m.get vb=some (.row (ints vc) ve false)) (ab:1<=n1) (hl:n1*sz<=b.length) (A:b.take (n1*sz)=ints rs):
  qA vb (ints vc) ve e sz (.ret (.slice d 0 n1 c) u) ok=some (n1,ints rs):=by
 have B:jD d vb=false:=by
  grind [jD,nB]
 unfold qA;dsimp only;rw[h1,z];dsimp only;rw[w,B,oq,Nat.beq_refl,Nat.beq_refl,show Nat.ble 1 n1=true by simp_all,bN,nA_,show Nat.ble (n1*sz) b.length=true by simp_all,dp,dQ,List.drop_zero,A,nZ];rfl
theorem Iw {f:Nat} {O:N} {R:V->N->Prop} (z:Plain G) (A:G.fk f=true) {b n sz i vb mc e ve:Nat} {cells:List V} {vc rs:List Int} {n1:Nat} (hn:1<=n) (hi:i<n) (aa:b≠vb) (hb:O.m.get b=some (.row cells e false)) (B:O.m.get vb=some (.row (ints vc) ve false)) (hc:n*sz<=cells.length)
  (w:1<=n1) (ab:rs.length=n1*sz)
  (h1:vj P G f [.slice b 0 n (.known n),.int .i64 (.ofNat i),.slice vb 0 1 (.known mc)] (fe O b (.row cells e false) vb (.row (ints vc) ve false)) fun v O'=>∃u d,v= .slice u 0 n1 (.upto sz)/\u≠vb/\O'.m.get u=some (.row d e false)/\O'.m.get vb=some (.row (ints vc) ve false)/\n1*sz<=d.length/\d.take (n1*sz)=ints rs)
  (E:vj P G f [.slice b 0 n (.least (Nat.succ n) sz),.int .i64 (.ofNat i),.slice vb 0 1 (.known mc)] (fe O b (.row (cells.take (n*sz)++List.replicate sz .any) e false) vb (.row (ints vc) ve false)) fun v O'=>∃u a d,v= .slice u 0 n1 (.least a sz)/\n1<=a/\u≠vb/\O'.m.get u=some (.row d e false)/\O'.m.get vb=some (.row (ints vc) ve false)/\n1*sz<=d.length/\d.take (n1*sz)=ints rs)
  (F:R (.slice O.next 0 n1 (.upto sz)) ((O.drop b).alloc (.row (ints rs) e false))) (hl:Ej f=false:=by rfl):a8 P G f [.slice b 0 n (.upto sz),.int .i64 (.ofNat i),.slice vb 0 1 (.known mc)] O R:=by
 obtain⟨K,v1,σ1,L,u,d,rfl,g1,M,Q,S,T⟩:=h1;obtain⟨W,v2,σ2,k2,b2,a,ac,rfl,f0,X,f2,f3,f4,f5⟩:=E;refine⟨max K W,_,_,fun k hk=>?_,F⟩;rw[Fk (z.h1 _ _ _) (z.h2 _ _ hl) (z.h4 _ _ _) A]
 have e:pG P G (eH P G k) f [.slice b 0 n (.upto sz),.int .i64 (.ofNat i),.slice vb 0 1 (.known mc)] O= .ret (.slice O.next 0 n1 (.upto sz)) ((O.drop b).alloc (.row (ints rs) e false)):=by
  have C:atEnd [.slice b 0 n (.upto sz),.int .i64 (.ofNat i),.slice vb 0 1 (.known mc)]=false:=by
   show Nat.beq i n=false
   grind [nB]
  have hs:jD b vb=false:=by
   grind [jD,nB]
  unfold pG;rw[C];simp only[cond_false];unfold FC;dsimp only;rw[hb,B];dsimp only;rw[hs,show Nat.ble 1 n=true by simp_all,show mS (.int .i64 (.ofNat i))=true from Z,nZ,bN,nA_,show Nat.ble (n*sz) cells.length=true by simp_all];rw[dX,dp,tc,L k oM,k2 k oM];rw[wB (by show Nat.beq sz sz=true;exact Nat.beq_refl _) g1 M Q w S T,wB (by show(Nat.beq sz sz && Nat.ble n1 a)=true;simp_all) X f2 f3 w f4 f5]
  grind [Nat.beq_refl,oq]
 rw[e];rfl
end
def cY (l:List bT):List V:=l.flatMap fun x=>ints x.ints
theorem fS (x:bT) (l:List bT):cY (x::l)=ints x.ints++cY l:=rfl
theorem rU (l r:List bT):cY (l++r)=cY l++cY r:=List.flatMap_append
theorem ed:∀(l:List bT),(cY l).length=l.length*2
 | []=>rfl
 | x::l=>by
  rw[fS,lA_,ed l,List.length_cons];show 2+_=_;omega
theorem pq:∀(l:List bT) (i:Nat),(cY l).drop (i*2)=cY (l.drop i)
 | l,0=>by simp
 | [],i+1=>by simp[cY]
 | x::l,i+1=>by
  rw[List.drop_succ_cons,<-pq l i,fS,show(i+1)*2=(ints x.ints).length+i*2 by show _=2+_;omega,<-List.drop_drop,List.drop_left]
theorem ux:∀(l:List bT) (i:Nat),(cY l).take (i*2)=cY (l.take i)
 | l,0=>by simp[cY]
 | [],i+1=>by simp[cY]
 | x::l,i+1=>by
  rw[List.take_succ_cons,fS,fS,<-ux l i,show(i+1)*2=(ints x.ints).length+i*2 by show _=2+_;omega,List.take_length_add_append]
theorem lu:∀(l:List Int),cE (ints l)=true
 | []=>rfl
 | x::l=>af Z (lu l)
theorem mM (l:List bT):cY l=ints (l.flatMap bT.ints):=by
 induction l with
 | nil=>rfl
 | cons x l ih=>rw[fS,ih,List.flatMap_cons];simp[ints]
theorem uw (l:List bT):cE (cY l)=true:=by rw[mM];exact lu _
theorem yw:∀(l:List bT) (cells:List V),cells.length=l.length*2->(∀(i:Nat) (x:bT),l[i]?=some x->ji x ((cells.drop (i*2)).take 2))->cells=cY l
 | [],cells,h,_=>eN_ h
 | x::l,cells,h,d=>by
  rw[List.length_cons] at h;have h0:cells.take 2=ints x.ints:=by have:=d 0 x Z;simpa [ji] using this
  rw[fS,<-h0,<-yw l (cells.drop 2) (by rw[lD_];omega) (fun i y hy=>by have:=d (i+1) y (by simpa using hy);rwa[show(i+1)*2=2+i*2 by omega,<-List.drop_drop] at this),List.take_append_drop]
theorem GK {l:List bT} {i:Nat} {x:bT} (h:l[i]?=some x):ji x (((cY l).drop (i*2)).take 2):=by
 rw[pq,bX h,fS,show(2:Nat)=(ints x.ints).length from Z,List.take_left];rfl
theorem ug {A X Zv:List V} {off:Nat} (ho:off=A.length) (hz:X.length<=Zv.length):dM X (A++Zv) off=A++(X++Zv.drop X.length):=by
 grind [nO,List.drop_drop,List.drop_left]
theorem FM {A X B Zv:List V} {off:Nat} (ho:off=A.length+X.length) (hz:Zv.length=B.length):dM B (A++(X++Zv)) off=A++(X++B):=by
 grind [ug]
theorem Lp {A X B C:List V} {off:Nat} (ho:off=A.length) (hc:X.length=C.length):dM X (A++(C++B)) off=A++(X++B):=by
 grind [ug]
section
variable {P:Program} {G:Cx} {ev:Operand->Option V} {O:N}
theorem kW {lo:Operand} {k:IntKind} {l len cap:Nat} (h:ev lo=some (.int k (.ofNat l))) (hl:l<=len):dh ev len cap (some lo) none=some (l,len):=by
 simp only[dh,fy,h,show Nat.ble l len=true by simp_all,cond_true]
theorem om {hi:Operand} {k:IntKind} {h' len cap:Nat} (h:ev hi=some (.int k (.ofNat h'))) (hl:h'<=cap):dh ev len cap none (some hi)=some (0,h'):=by
 simp only[dh,fy,h,show Nat.ble h' cap=true by simp_all,cond_true]
theorem xR {t e sz b off len cap l h:Nat} {x:Operand} {lo hi:Option Operand} (u:P.underlying t=some (.slice e)) (hj:(P.info? e).map (·.size)=some sz) (hx:ev x=some (.slice b off len (.known cap))) (hb:dh ev len cap lo hi=some (l,h)) (hl:l<cap):
  dW P G ev O (.slice t x lo hi none)= .val (.slice b (off+l*sz) (h-l) (.known (cap-l))) O:=by
 refine a9 Z ?_;obtain⟨j,d,rfl⟩:=oM_.1 hj
 have:Nat.beq cap l=false:=by
  grind [nB]
 simp only[dj,fQ,u,hx,cutAt,hb,cut,d,this,cond_false]
theorem KA {t e sz b off cap:Nat} {k:IntKind} {x lo:Operand} (u:P.underlying t=some (.slice e)) (hj:(P.info? e).map (·.size)=some sz) (hx:ev x=some (.slice b off cap (.known cap))) (hb:ev lo=some (.int k (.ofNat cap))):
  dW P G ev O (.slice t x (some lo) none none)= .val (.slice b off 0 (.known 0)) O:=by
 refine a9 Z ?_;obtain⟨j,d,rfl⟩:=oM_.1 hj;have:Nat.beq cap cap=true:=Nat.beq_refl cap;simp only[dj,fQ,u,hx,cutAt,kW hb<|nR_ cap,cut,d,this,cond_true,Nat.sub_self]
theorem KB {t e sz:Nat} {k:IntKind} {x lo:Operand} (u:P.underlying t=some (.slice e)) (hj:(P.info? e).map (·.size)=some sz) (hx:ev x=some .av) (hb:ev lo=some (.int k (.ofNat 0))):
  dW P G ev O (.slice t x (some lo) none none)= .val .av O:=by
 refine a9 Z ?_;obtain⟨j,d,rfl⟩:=oM_.1 hj;simp only[dj,fQ,u,hx,kW hb<|nR_ 0,d]
theorem xS {t e sz b off len l h:Nat} {x:Operand} {lo hi:Option Operand} (u:P.underlying t=some (.slice e)) (hj:(P.info? e).map (·.size)=some sz) (hx:ev x=some (.slice b off len (.upto sz))) (hb:dh ev len len lo hi=some (l,h)):
  dW P G ev O (.slice t x lo hi none)= .val (.slice b (off+l*sz) (h-l) (.upto sz)) O:=by
 refine a9 Z ?_;obtain⟨j,d,rfl⟩:=oM_.1 hj;simp only[dj,fQ,u,hx,hb,d,Nat.beq_refl,cond_true]
theorem nX {t e sz b off len a l h:Nat} {x:Operand} {lo hi:Option Operand} (u:P.underlying t=some (.slice e)) (hj:(P.info? e).map (·.size)=some sz) (hx:ev x=some (.slice b off len (.least a sz))) (hb:dh ev len a lo hi=some (l,h)) (h1:len<=a) (h2:l+1<=a):
  dW P G ev O (.slice t x lo hi none)= .val (.slice b (off+l*sz) (h-l) (.least (a-l) sz)) O:=by
 refine a9 Z ?_;obtain⟨j,d,rfl⟩:=oM_.1 hj;simp only[dj,fQ,u,hx,hb,d,Nat.beq_refl,show Nat.ble len a=true by simp_all,show Nat.ble (Nat.succ l) a=true by simp_all,Bool.and_self,cond_true]
theorem vL {b off len sz e:Nat} {c:ql} {ro:Bool} {cells:List V} (hb:O.m.get b=some (.row cells e ro)) (hl:off+len*sz<=cells.length):kC O sz (.slice b off len c)=some (len,(cells.drop off).take (len*sz)):=by
 simp only[kC,hb,bN,show Nat.ble (off+len*sz) cells.length=true by simp_all,cond_true,dp,dQ]
theorem Ba {cl:Call} {ds so:Operand} {ty e sz b off len n Dy e':Nat} {c:ql} {v:V} {news cells cells':List V} (z:cl.callee= .builtin .copy) (A:cl.args.toList= [ds,so]) (B:cl.argTypes[0]?=some ty) (hu:P.underlying ty=some (.slice e)) (hj:(P.info? e).map (·.size)=some sz)
  (C:ev ds=some (.slice b off len c)) (E:ev so=some v) (d:kC O sz v=some (n,news)) (u:Nat.min n len=Dy) (aa:1<=Dy) (hb:O.m.get b=some (.row cells e' false)) (hl:cE (news.take (Dy*sz))=true) (ab:1<=sz)
  (hle:off+(news.take (Dy*sz)).length<=cells.length) (F:dM (news.take (Dy*sz)) cells off=cells'):dW P G ev O (.call cl)= .val (.int .i64 (.ofNat Dy)) (O.setObj b (.row cells' e' false)):=by
 refine kF (by simp[kindOf,z]) ?_;obtain⟨j,w,rfl⟩:=oM_.1 hj
 have he:lO ev [ds,so]=some [.slice b off len c,v]:=by
  unfold lO cQ;simp only[C,E]
 have h0:Nat.beq Dy 0=false:=by
  grind [nB]
 subst F;simp only[gf,z,A,he,rk,B,hu,w,d,u,h0,cond_false,hb,dp,hl,bN,show Nat.ble 1 j.size=true by simp_all,show Nat.ble (off+(news.take (Dy*j.size)).length) cells.length=true by simp_all,Bool.and_self,cond_true]
theorem HO {cl:Call} {so no:Operand} {ty z e sz b len cp n e' w:Nat} {k2:IntKind} {cells zs:List V} (E:cl.callee= .builtin .append) (F:cl.args.toList= [so,no]) (M:cl.argTypes[0]?=some ty) (A:cl.argTypes[1]?=some z) (hu:P.underlying ty=some (.slice e)) (d:P.underlying z=some (.int k2)) (hj:(P.info? e).map (·.size)=some sz) (hw:(P.info? e).map (·.bytes)=some w) (R:(fw P e).bind df=some zs)
  (S:ev so=some (.slice b 0 len (.known cp))) (T:ev no=some (.int .i64 (.ofNat n))) (hb:O.m.get b=some (.row cells e' false)) (h1:cp<len+n) (h2:1<=n) (h3:n<=1048576) (h4:len<=1048576) (h5:1<=sz) (h6:w<=65536) (W:zs.length=sz) (h8:len*sz<=cells.length) {m:Nat} (hm:len+n=m):
  dW P G ev O (.call cl)= .val (.slice O.next 0 m (.upto sz)) (O.alloc (.row (cells.take (len*sz)++fl zs n) e false)):=by
 refine kF (by simp[kindOf,E]) ?_;obtain⟨j,u,rfl⟩:=oM_.1 hj;rw[u] at hw;have hw:j.bytes=w:=by simpa using hw
 subst hm
 have he:lO ev [so,no]=some [.slice b 0 len (.known cp),.int .i64 (.ofNat n)]:=by
  unfold lO cQ;simp only[S,T]
 have B:dC P (some z)=false:=by simp only[dC,d]
 have C:Nat.ble (len+n) cp=false:=by
  grind [nE_]
 have e1:Nat.ble n 1048576=true:=by simp_all
 have X:Nat.ble 1 n=true:=by simp_all
 have e3:Nat.ble 1 j.size=true:=by simp_all
 have e4:Nat.ble j.bytes 65536=true:=by simp_all
 have e5:Nat.beq (dn zs) j.size=true:=by rw[bN,W];exact Nat.beq_refl _
 have e6:Nat.ble (0+len*j.size) (dn cells)=true:=by rw[nE_,bN];omega
 have e7:Nat.ble len 1048576=true:=by simp_all
 simp only[gf,E,F,he,B,cond_false,n8,M,A,hu,d,u,R,e1,X,e3,e4,e5,Bool.and_self,cond_true,C,hb,e6,e7,grow,dX,dp,dQ,List.drop_zero]
end
section
variable {P:Program} {G:Cx} {ev:Operand->Option V} {O:N}
theorem Fa {cl:Call} {g b b' off off' n n' e e':Nat} {c c':ql} {cells cells':List V} {x y:Operand} (C:cl.callee= .value (.func g)) (E:cl.args.toList= [x,y]) (u:Ae P g=false) (w:G.ov g=true) (z:isNe P g=false) (hx:ev x=some (.slice b off n c)) (hy:ev y=some (.slice b' off' n' c')) (hf:ev (.func g)=some (.func g [] []))
  (h1:O.m.get b=some (.row cells e false)) (F:O.m.get b'=some (.row cells' e' false)) (hb:b≠b') (A:kN c=true) (d:kN c'=true) (hl:1<=cells'.length):dW P G ev O (.call cl)= .val (.bool false) O:=by
 refine kF (by simp[kindOf,C]) ?_
 have he:lO ev [x,y]=some [.slice b off n c,.slice b' off' n' c']:=by
  unfold lO cQ;simp only[hx,hy]
 have M:jD b b'=false:=by
  grind [jD,nB]
 have B:gE ([]:List V) (gE [.slice b off n c,.slice b' off' n' c'] [])= [.slice b off n c,.slice b' off' n' c']:=rfl;simp only[gf,C,hf,E,he,yt,u,w,z,cond_true,cond_false,B,nH,h1,F,M,A,d,bN,show Nat.ble 1 cells'.length=true by simp_all,Bool.and_self]
theorem MH {cl:Call} {ty e:TypeId} {x:Operand} {v r:V} (d:cl.callee= .builtin .cap) (u:cl.argTypes[0]?=some ty) (w:cl.args.toList= [x]) (hu:P.underlying ty=some (.slice e)) (hx:ev x=some v) (h:MT v=some r):dW P G ev O (.call cl)= .val r O:=by
 refine a9 (by simp[kindOf,d]) ?_;simp only[dj,d,u,w,hu,hx,h]
end
section
variable {P:Program} {G:Cx} {n:Nat} {t:PT V} {O:N} {K:KP} {L:Own} {Q:Ex->PT V->N->Prop} {ops:Array Oper} {o:Oper} {l:List Oper}
theorem Jl (d:D O K L) {ob:cN} {k sz:Nat} {t':Nat->PT V} (hw:bH ops t o=some true) (hv:dW P G (bp G t) O o.op= .val (.slice O.next 0 k (.upto sz)) (O.alloc ob)) (hp:∀b,dP t n o.dst (.slice b 0 k (.upto sz))=some (t' b))
  (h:∀(O':N) (b:Nat),D O' K ((b,ob)::L)->bK P G ops n l (t' b) O' Q):bK P G ops n (o::l) t O Q:=
 Y hw hv (hp _) (h _ _<|d.alloc ob)
end
section
variable {P:Program} {G:Cx} {O:N} {K:KP} {L:Own}
theorem qU {α:Type} {m e:Nat} {R:α->List V->Prop} {l2:List α} {w:V} {ts:Array TypeId} {t:TypeId} (B:D O K L) (hx:bF K m R l2 w) (d:∀x vs,R x vs->cE vs=true) (hn:l2.length<=1048576) (aa:1<=l2.length)
  (C:ts[0]?=some t) (hu:P.underlying t=some (.slice e)) (u:qW P e m=true) (E:dC P ts[1]?=true):
  ∃news,fM P O ts .av w= .val (.slice O.next 0 l2.length (.upto m)) (O.alloc (.row news e false))/\news.length=l2.length*m/\∀(i:Nat) (x:α),l2[i]?=some x->R x ((news.drop (i*m)).take m):=by
 obtain⟨news,F,M,S,T⟩:=nN B hx d;refine⟨news,?_,M,T⟩;unfold qW at u;split at u
 ·rename_i j hj;simp only[bA_] at u;obtain⟨W,X,a3,a4⟩:=u;have hm:j.size=m:=nB W;subst hm;have A:((P.info? e).any fun j=>(j.zero.bind pP).any fun z=>(df z).any fun cs=>Nat.beq (dn cs) j.size)=true:=by rw[hj];exact a4
  have h0:Nat.beq l2.length 0=false:=by
   grind [nB]
  unfold fM;rw[C];dsimp only;rw[hu];dsimp only;rw[hj] at A⊢;dsimp only;rw[E,X,a3];simp only[Bool.and_self,cond_true];rw[F];dsimp only;rw[S,show Nat.ble l2.length 1048576=true by simp_all,A];simp only[Bool.and_self,cond_true,h0,cond_false];rfl
 cases u
end
section
variable {P:Program} {G:Cx} {n:Nat} {t:PT V} {O:N} {K:KP} {L:Own} {Q:Ex->PT V->N->Prop} {ops:Array Oper} {o:Oper} {l:List Oper}
theorem He {α:Type} {m e:Nat} {R:α->List V->Prop} {l2:List α} {C:V} {ty:TypeId} {cl:Call} {so xo:Operand} {t':V->PT V} (E:D O K L) (hx:bF K m R l2 C) (d:∀x vs,R x vs->cE vs=true) (M:l2.length<=1048576) (w:1<=l2.length)
  (hw:bH ops t o=some true) (S:o.op= .call cl) (z:cl.callee= .builtin .append) (u:cl.args.toList= [so,xo]) (T:cl.argTypes[0]?=some ty) (hu:P.underlying ty=some (.slice e)) (W:qW P e m=true) (F:dC P cl.argTypes[1]?=true)
  (A:bp G t so=some .av) (B:bp G t xo=some C) (hp:∀v,dP t n o.dst v=some (t' v))
  (h:∀(O':N) (b':Nat) (news:List V),D O' K ((b',.row news e false)::L)->news.length=l2.length*m->(∀(i:Nat) (x:α),l2[i]?=some x->R x ((news.drop (i*m)).take m))->bK P G ops n l (t' (.slice b' 0 l2.length (.upto m))) O' Q):bK P G ops n (o::l) t O Q:=by
 obtain⟨news,X,k2,k3⟩:=qU (P:=P) E hx d M w T hu W F;refine Y hw ?_ (hp _)<|h _ O.next news (E.alloc _) k2 k3;rw[S];exact ec z u A B F X
end
section
variable {O:N} {K:KP} {L:Own} {b:Nat} {o:cN}
def KP.sub (K:KP) (b:Nat):KP:=fun b' o'=>K b' o'/\b'≠b
theorem D.NO (h:D O K L) (hk:K b o):D O (K.sub b) ((b,o)::L) where
 kept b' o' hb:=by
  obtain⟨h1,d,h3⟩:=h.kept b' o' hb.1;refine⟨h1,d,fun e he=>?_⟩;rcases mQ_.1 he with rfl | he
  ·exact fun hh=>hb.2 hh.symm
  exact h3 e he
 own e he:=by
  rcases mQ_.1 he with rfl | he
  ·exact⟨(h.kept b o hk).1,(h.kept b o hk).2.1⟩
  exact h.own e he
 ne:=List.pairwise_cons.2 ⟨fun e he hh=>(h.kept b o hk).2.2 e he hh.symm,h.ne⟩
theorem D.NF {σ0:N} {u:Own} (h0:D σ0 K u) (hk:K b o) (h:D O (K.sub b) ((b,o)::L)):D O K L:=
 h.Cb.weaken fun b' o' hb=>by
  by_cases d:b'=b
  ·subst d;have e1:=(h0.kept _ _ hb).2.1;rw[(h0.kept _ _ hk).2.1] at e1;cases e1;exact .inr ⟨Z,Z⟩
  exact .inl ⟨hb,d⟩
theorem D.two {b b':Nat} {o o' o1 aa:cN} (hb:b<O.next) (d:b'<O.next) (ab:b≠b'):D (fe O b o b' o') (fun _ _=>False) [(b,o),(b',o')] where
 kept _ _ h:=h.elim
 own e he:=by
  rcases mQ_.1 he with rfl | he
  ·exact⟨hb,by show((PT.leaf.put (some o) b).put (some o') b').get b=_;grind [PT.dB,PT.dE]⟩
  rcases mQ_.1 he with rfl | he
  ·exact⟨d,PT.dE _ _ _⟩
  cases he
 ne:=List.pairwise_cons.2 ⟨fun e he=>(by simp_all),List.pairwise_singleton ..⟩
end
inductive cX (X:Own):Own->Own->Prop
 | here {L:Own}:cX X (X++L) L
 | there {y:Nat×cN} {L L0:Own}:cX X L L0->cX X (y::L) (y::L0)
 | dv {M L L0:Own}:cX X L L0->cX X (M++L) (M++L0)
theorem cX.perm {X L L0:Own} (h:cX X L L0):L.Perm (X++L0):=by
 induction h with
 | here=>simp_all
 | @there y L L0 _ ih=>exact(List.Perm.cons y ih).trans List.perm_middle.symm
 | @dv M L L0 _ ih=>
  refine(List.Perm.append_left M ih).trans ?_
  grind [List.Perm.append_right,List.perm_append_comm]
theorem cX.ry {X A B L:Own}:cX X ((A++(X++B))++L) ((A++B)++L):=by
 rw[lQ_,lQ_,lQ_];exact .dv .here
section
variable {O:N} {K:KP} {L L0 X:Own}
theorem D.pull (h:D O K L) (hi:cX X L L0):D O K (X++L0):=h.perm hi.perm
theorem D.push (h:D O K (X++L0)) (hi:cX X L L0):D O K L:=h.perm hi.perm.symm
theorem fH {P:Program} {α:Type} {m e:Nat} {R:α->List V->Prop} {l l2:List α} {u B:V} {M:Own} {bv ev:Nat} {cv:List V} {ts:Array TypeId} {t:TypeId} (G:dt m e R l u M) (ar:D O K ((bv,.row cv ev false)::(M++L)))
  (hx:bF (K.add bv (.row cv ev false)) m R l2 B) (d:∀x vs,R x vs->cE vs=true) (hn:l2.length<=1000) (w:1<=l2.length) (hl:l.length<=1000000)
  (C:ts[0]?=some t) (hu:P.underlying t=some (.slice e)) (E:qW P e m=true) (F:dC P ts[1]?=true):
  ∃O' u' M',fM P O ts u B= .val u' O'/\dt m e R (l++l2) u' M'/\D O' K (M'++L):=by
 have hk:=ar.Cb;rcases G with ⟨rfl,rfl,rfl⟩ | ⟨b,c,cells,e',rfl,rfl,h3,h4,h5,h6⟩
 ·obtain⟨news,z,k2,A⟩:=qU (P:=P) hk hx d oM w C hu E F;exact⟨_,_,[(O.next,.row news e false)],z,.inr ⟨_,_,news,e,Z,Z,k2,A,.inr ⟨Z,Z⟩,by grind⟩,((hk.alloc (.row news e false)).weaken<|KP.r9 _ _ _)⟩
 obtain⟨O',b',c',news,Q,z,k2,A,S,T⟩:=xQ (P:=P) hk hx d oM h3 oM h5 C hu E F;exact⟨O',_,[(b',.row (cells++news) Q false)],z,pT h3 h4 A S Z T oM,k2.weaken<|KP.r9 _ _ _⟩
end
def FF (g:XG) (tm:Nat) (e:bW) (fr:bT) (pl:Nat) (row:List bW) (frow:List bT) (orow:List bT) (loc:Nat):XG:=
 {init:=g.init,threads:=g.threads.set tm (row++[e]),from_:=g.from_.set tm (frow++[fr]),order:=bif bd e then g.order.set loc (orow.take pl++⟨.ofNat (tm+1),.ofNat row.length⟩::orow.drop pl) else g.order}
def gD (g:XG) (th:Int) (e:bW) (fr:bT) (pl:Int):Option XG×Int:=
 bif !H (cd g) 0 then(none,2) else
 bif cq th 1 then(none,9) else
 bif cq (.ofNat g.threads.length) th then(none,9) else
 match g.threads[th.toNat-1]?,g.from_[th.toNat-1]? with
 | some row,some frow=>
  bif !cq (.ofNat row.length) 14 then(none,3) else
  bif (bif bd e then(bif cq pl 1 then true else cq (.ofNat (bV g e.loc).length) pl) else !H pl 0) then(none,2) else
  let g':=FF g (th.toNat-1) e fr (pl.toNat-1) row frow ((g.order[e.loc.toNat]?).getD []) e.loc.toNat
  bif H (cd g') 0 then(some g',0) else(none,2)
 | _,_=>(none,9)
theorem Oa {P:Program} {G:Cx} {ev:Operand->Option V} {O:N} {α:Type} {m E:Nat} {R:α->List V->Prop} {l:List α} {u:V} {M:Own} {c:Call} {t e:TypeId} {x:Operand} (h:dt m E R l u M) (d:c.callee= .builtin .len) (w:c.argTypes[0]?=some t) (z:c.args.toList= [x]) (hu:P.underlying t=some (.slice e)) (hx:ev x=some u):
  dW P G ev O (.call c)= .val (.int .i64 (.ofNat l.length)) O:=
 aZ (K:=fun b o=>(b,o)∈M) (h.gL fun e he=>he) d w z hu hx
theorem qo (b o l c:Nat):eB (.slice b o l (.known c)) (.slice b o l (.known c))=true:=by
 unfold eB;show(eB.beqP b b && Nat.beq o o && Nat.beq l l && eB.beqC (.known c) (.known c))=true
 grind [eB.beqP,Nat.beq_refl,eB.beqC]
theorem kq {us:List V} {u:V} {i:Nat} (h:i<us.length):dM [u] us (0+i*1)=us.set i u:=by
 rw[show 0+i*1=i by omega,nO _ _ _ (by grind),List.length_singleton,List.set_eq_take_append_cons_drop,if_pos h,lQ_];rfl
theorem sj {n:Int} (h:cq n 1=false):∃m:Nat,n= .ofNat (m+1):=by
 cases n with
 | negSucc k=>cases h
 | ofNat k=>
  have:1<=k:=bz (a:=k) (b:=1) h;exact⟨k-1,by simp_all⟩
theorem Ah {m:LM} {k:List Int} (h:(fO m k).isSome=true):(lj m k).length+1=m.length:=by
 unfold fO at h;unfold lj;cases b:pL m k 0 with
 | none=>rw[b] at h;cases h
 | some p=>
  obtain⟨j,v⟩:=p;have h1:=(qE b).2
  grind
theorem uy {loc:Nat}:∀{l:List bT} {m m':LM},lB loc l m=some m'->m'.length+l.length=m.length
 | [],m,m',h=>by cases h;rfl
 | id::l,m,m',h=>by
  have h':(bif (fO m id.ints).isSome then(bif H ((fO m id.ints).getD 0) (.ofNat loc) then lB loc l (lj m id.ints) else none) else none)=some m':=h;cases b:(fO m id.ints).isSome with
  | false=>rw[b] at h';cases h'
  | true=>
   rw[b] at h';cases he:H ((fO m id.ints).getD 0) (.ofNat loc) with
   | false=>rw[he] at h';cases h'
   | true=>
    rw[he] at h';have h1:=uy (l:=l) h';have h2:=Ah b;rw[List.length_cons];omega
theorem uz:∀{ls:List (List bT)} {loc:Nat} {m m':LM},na ls loc m=some m'->∀l∈ls,l.length<=m.length
 | [],_,_,_,_,l,hl=>by cases hl
 | r::ls,loc,m,m',h,l,hl=>by
  have h':(lB loc r m).bind (na ls (loc+1))=some m':=h;cases b:lB loc r m with
  | none=>simp_all
  | some m1=>
   rw[b] at h';have h1:=uy b;rcases mQ_.1 hl with rfl | hl
   ·omega
   have:=uz (ls:=ls) h' l hl;omega
theorem B8 {t:Nat} {m:LM} {n:Nat} {e:bW}:(wL t m n e).length<=m.length+1:=by
 unfold wL;cases bd e with
 | false=>simp_all
 | true=>
  show(pM m _ _).length<=_;unfold pM
  grind
theorem uI {t:Nat}:∀{l:List bW} {n:Nat} {m:LM},(qZ t l n m).length<=m.length+l.length
 | [],_,_=>nR_ _
 | e::l,n,m=>by
  have h1:=uI (t:=t) (l:=l) (n:=n+1) (m:=wL t m n e);have h2:=B8 (t:=t) (m:=m) (n:=n) (e:=e);show(qZ t l (n+1)<|wL t m n e).length<=_;rw[List.length_cons];omega
theorem uJ:∀{ls:List (List bW)} {t:Nat} {m:LM},(∀l∈ls,l.length<=14)->(pd ls t m).length<=m.length+14*ls.length
 | [],_,_,_=>by simp[pd]
 | l::ls,t,m,h=>by
  have h1:=uJ (ls:=ls) (t:=t+1) (m:=qZ t l 0 m) fun x hx=>h x (mC_ _ hx)
  have h2:=uI (t:=t) (l:=l) (n:=0) (m:=m);have h3:=h l (mS_ ..);show(pd ls (t+1)<|qZ t l 0 m).length<=_;rw[List.length_cons];omega
theorem jA {g:XG} (h:cd g=0):∀l∈g.order,l.length<=56:=by
 intro l hl;obtain⟨b1,b2,b,b4,b5,b6,d⟩:=dc h;unfold eR at d;cases u:na g.order 0 (pd g.threads 0 []) with
 | none=>simp_all
 | some m=>
  have h1:=uz u l hl;have h2:=uJ (ls:=g.threads) (t:=0) (m:=[]) b
  grind
end Go.Ev
namespace Go.Ev
variable [Env]
theorem p8 {g:XG}:∀{ts:List (List bW)} {fs:List (List bT)} {i:Nat},ll g ts fs i=true->fs.length=ts.length->(∀l∈ts,l.length<=14)->∀f∈fs,f.length<=14
 | [],fs,_,_,hl,_,f,hf=>by
  rw[eN_ hl] at hf;cases hf
 | x::ts,[],_,_,hl,_,f,hf=>by cases hf
 | x::ts,y::fs,i,h,hl,hb,f,hf=>by
  have h':(bif H (.ofNat y.length) (.ofNat x.length) then(bif p7 g i x y 0 then ll g ts fs (i+1) else false) else false)=true:=h;cases he:H (.ofNat y.length) (.ofNat x.length) with
  | false=>rw[he] at h';cases h'
  | true=>
   rw[he] at h';cases b:p7 g i x y 0 with
   | false=>rw[b] at h';cases h'
   | true=>
    rw[b] at h';have e1:=dG he;have e2:=hb x (mS_ ..);rcases mQ_.1 hf with rfl | hf
    ·omega
    exact p8 (ts:=ts) (fs:=fs) h' (by simpa using hl) (fun l hl=>hb l (mC_ _ hl)) f hf
end Go.Ev
namespace Go.Ev
variable [Env]
theorem Bm {g:XG} {th pl:Int} {e:bW} {fr:bT} (h:H (cd g) 0=false):gD g th e fr pl=(none,2):=by unfold gD;rw[h];rfl
theorem Bn {g:XG} {th pl:Int} {e:bW} {fr:bT} (h:H (cd g) 0=true) (h1:cq th 1=true):gD g th e fr pl=(none,9):=by unfold gD;rw[h,h1];rfl
theorem Bl {g:XG} {th pl:Int} {e:bW} {fr:bT} (h:H (cd g) 0=true) (h1:cq th 1=false) (b:cq (.ofNat g.threads.length) th=true):gD g th e fr pl=(none,9):=by unfold gD;rw[h,h1,b];rfl
def cW (g:XG) (e:bW) (pl:Int):Bool:=bif bd e then(bif cq pl 1 then true else cq (.ofNat (bV g e.loc).length) pl) else !H pl 0
def eo (g:XG) (tm:Nat) (e:bW) (fr:bT) (pl:Int) (row:List bW) (frow:List bT):XG:=FF g tm e fr (pl.toNat-1) row frow ((g.order[e.loc.toNat]?).getD []) e.loc.toNat
theorem kz {g:XG} {tm:Nat} {pl:Int} {e:bW} {fr:bT} {row:List bW} {frow:List bT} (h:H (cd g) 0=true) (hx:g.threads[tm]?=some row) (hf:g.from_[tm]?=some frow):
  gD g (.ofNat (tm+1)) e fr pl=bif !cq (.ofNat row.length) 14 then(none,3) else bif cW g e pl then(none,2) else bif H (cd<|eo g tm e fr pl row frow) 0 then(some<|eo g tm e fr pl row frow,0) else(none,2):=by
 have aa:tm<g.threads.length:=(gA.1 hx).1;have h1:cq (.ofNat (tm+1)) 1=false:=by rw[show(1:Int)= .ofNat 1 from Z,jz];simp
 have b:cq (.ofNat g.threads.length) (.ofNat (tm+1))=false:=by rw[jz];simp;omega
 have e1:(Int.ofNat (tm+1)).toNat-1=tm:=rfl;unfold gD;rw[h,h1,b];simp only[Bool.not_true,cond_false,e1,hx,hf];rfl
end Go.Ev
namespace Go.Ev
variable [Env]
theorem xP {g:XG} {loc:Int} (h:1<=(bV g loc).length):∃(ln:Nat) (r:List bT),loc= .ofNat ln/\g.order[ln]?=some r/\(bV g loc).length=r.length+1:=by
 cases b:H (cd g) 0 with
 | false=>rw[oQ b] at h;cases h
 | true=>
  cases hl:cq loc 0 with
  | true=>rw[qj hl] at h;cases h
  | false=>
   obtain⟨ln,rfl⟩:=iF hl;cases d:g.order[ln]? with
   | none=>
    grind [qi]
   | some r=>exact⟨ln,r,Z,d,by rw[ew b d];rfl⟩
section
variable {O σ0:N} {K:KP} {L M:Own}
theorem D.Gi (h0:D σ0 K (M++L)) (h:D O (K.m7 M) L):D O K (M++L) where
 kept b o hb:=by
  obtain⟨h1,d,h3⟩:=h.kept b o (.inl hb);refine⟨h1,d,fun e he=>?_⟩;rcases List.mem_append.1 he with he | he
  ·exact(h0.kept b o hb).2.2 e (List.mem_append_left _ he)
  exact h3 e he
 own e he:=by
  rcases List.mem_append.1 he with he | he
  ·exact⟨(h.kept e.1 e.2 (.inr he)).1,(h.kept e.1 e.2 (.inr he)).2.1⟩
  exact h.own e he
 ne:=h0.ne
end
end Go.Ev
namespace Go.Ev
variable [Env]
inductive nY:Own->Own->Own->Prop
 | base {L:Own}:nY L [] L
 | there {x:Nat×cN} {LL M L:Own}:nY LL M L->nY (x::LL) (x::M) L
 | dv {A LL M L:Own}:nY LL M L->nY (A++LL) (A++M) L
theorem nY.eq {LL M L:Own} (h:nY LL M L):LL=M++L:=by
 induction h with
 | base=>rfl
 | there _ ih=>rw[ih];rfl
 | dv _ ih=>simp_all
theorem D.app {O:N} {K:KP} {LL M L:Own} (h:D O K LL) (b:nY LL M L):D O K (M++L):=by rw[<-b.eq];exact h
theorem D.MB {O:N} {K:KP} {LL M L:Own} (h:D O K (M++L)) (b:nY LL M L):D O K LL:=by rw[b.eq];exact h
theorem Ac {g:XG} {tm ln pm:Nat} {e:bW} {fr:bT} {row:List bW} {frow orow:List bT} (hw:bd e=true) (hl:e.loc= .ofNat ln) (ho:g.order[ln]?=some orow):
  eo g tm e fr (.ofNat (pm+1)) row frow= {init:=g.init,threads:=g.threads.set tm (row++[e]),from_:=g.from_.set tm (frow++[fr]),order:=g.order.set ln (orow.take pm++⟨.ofNat (tm+1),.ofNat row.length⟩::orow.drop pm)}:=by
 have e1:(Int.ofNat (pm+1)).toNat-1=pm:=rfl;have e2:(Int.ofNat ln).toNat=ln:=rfl;unfold eo FF
 simp_all
theorem FG {g:XG} {tm:Nat} {pl:Int} {e:bW} {fr:bT} {row:List bW} {frow:List bT} (hw:bd e=false):
  eo g tm e fr pl row frow= {init:=g.init,threads:=g.threads.set tm (row++[e]),from_:=g.from_.set tm (frow++[fr]),order:=g.order}:=by
 unfold eo FF;rw[hw];rfl
section
variable {P:Program} {G:Cx} {ev:Operand->Option V} {O:N} {K:KP} {L:Own}
theorem kG {t:TypeId} {x i:Operand} {s:List Nat} {n c:Nat} {k:IntKind} (b:P.underlying t=some .string) (hx:ev x=some (.str s)) (hi:ev i=some (.int k (.ofNat n))) (d:s[n]?=some c):dW P G ev O (.index t x i)= .val (.int .u8 (.ofNat c)) O:=by
 refine a9 Z ?_;simp only[dj,b,hx,hi,eU,d]
theorem fm {t e n m j off:Nat} {b:Pos} {x i:Operand} {k:IntKind} (d:P.underlying t=some (.array n e)) (hj:(P.info? e).map (·.size)=some m) (hx:ev x=some (.ptr b off)) (hi:ev i=some (.int k (.ofNat j))) (w:j<n):dW P G ev O (.indexAddr t x i)= .val (.ptr b (off+j*m)) O:=by
 refine a9 Z ?_;obtain⟨q,hq,rfl⟩:=oM_.1 hj;simp only[dj,d,hx,hi,hq,show Nat.ble (Nat.succ j) n=true by rw[nE_];exact w,cond_true]
theorem cz {x:Operand} {b:Pos} {off:Nat} (hx:ev x=some (.ptr b off)):dW P G ev O (.nilCheck x)= .val (.ptr b off) O:=a9 Z (by simp only[dj,hx])
theorem dS {x:Operand} {p:V} {vs:List V} (hp:gi K p vs) (hx:ev x=some p):dW P G ev O (.nilCheck x)= .val p O:=by
 obtain⟨b,off,_,_,_,rfl,_⟩:=hp;exact cz hx
theorem Pr {c:Call} {x y:Operand} {a b:Int} {k:IntKind} (d:c.callee= .builtin .max) (w:c.args.toList= [x,y]) (hx:ev x=some (.int k a)) (hy:ev y=some (.int k b)):dW P G ev O (.call c)= .val (.int k (bif cq a b then b else a)) O:=by
 refine a9 (by simp[kindOf,d]) ?_;have e:sy k k=true:=by cases k<;>rfl
 simp only[dj,d,w,hx,hy,Ns,e,cond_true]
theorem hH {α:Type} {f:α->V} {l:List α} {i off:Nat} {x:α} (h:l[i]?=some x) (b:off=i):nth (l.map f) off=some (f x):=by
 subst b;rw[eU,gM_,h];rfl
theorem eN {α:Type} {f:α->V} {l:List α} {i off:Nat} {v:α} (h:i<l.length) (ho:off=i):dM [f v] (l.map f) off=(l.set i v).map f:=by
 grind [kq,List.map_set]
theorem iL {α:Type} {f:α->V} (v:α) (n:Nat):fl [f v] n=(List.replicate n v).map f:=by rw[gh,List.map_replicate]
end
def ns {α:Type} (m E:Nat) (R:α->List V->Prop) (l:List α) (u:V) (M:Own):Prop:=
 (l= []/\u= .av/\M= [])∨∃(b:Nat) (c:ql) (cells:List V) (e:Nat),u= .slice b 0 l.length c/\M= [(b,.row cells e false)]/\l.length*m<=cells.length/\(∀(i:Nat) (x:α),l[i]?=some x->R x ((cells.drop (i*m)).take m))/\((∃n,c= .known n/\l.length<=n/\n*m<=cells.length)∨(c= .upto m/\e=E))/\l.length<=1048576
section
variable {α:Type} {m E:Nat} {R:α->List V->Prop} {l:List α} {u:V} {M:Own} {K:KP}
theorem dt.Qe (h:dt m E R l u M):ns m E R l u M:=by
 rcases h with h | ⟨b,c,cells,e,h1,d,h3,h4,h5,w⟩
 ·exact .inl h
 refine .inr ⟨b,c,cells,e,h1,d,by omega,h4,?_,w⟩
 grind
theorem ns.gL (h:ns m E R l u M) (hk:∀e∈M,K e.1 e.2):bF K m R l u:=by
 rcases h with ⟨h1,d,_⟩ | ⟨b,c,cells,e,rfl,rfl,h3,h4,h5,h6⟩
 ·exact .inl ⟨h1,d⟩
 refine .inr ⟨b,0,c,cells,e,false,Z,?_,hk _<|mS_ ..,by omega,by omega,fun i x hx=>by simp_all⟩;rcases h5 with ⟨n,h5,w,_⟩ | h5
 ·exact .inr ⟨_,h5,w⟩
 exact .inl h5.1
theorem Bb {P:Program} {G:Cx} {ev:Operand->Option V} {O:N} {c:Call} {t e:TypeId} {x:Operand} (h:ns m E R l u M) (d:c.callee= .builtin .len) (w:c.argTypes[0]?=some t) (z:c.args.toList= [x]) (hu:P.underlying t=some (.slice e)) (hx:ev x=some u):
  dW P G ev O (.call c)= .val (.int .i64 (.ofNat l.length)) O:=
 aZ (K:=fun b o=>(b,o)∈M) (h.gL fun e he=>he) d w z hu hx
theorem ns.take (h:ns m E R l u M) {P:Program} {ev:Operand->Option V} {t:TypeId} {x hi:Operand} {kk:IntKind} {k:Nat} (hk:k<=l.length) (hu:P.underlying t=some (.slice E)) (hj:(P.info? E).map (·.size)=some m) (hx:ev x=some u) (hh:ev hi=some (.int kk (.ofNat k))):
  ∃u',fQ P ev t x none (some hi) none=some u'/\ns m E R (l.take k) u' M:=by
 obtain⟨j,d,rfl⟩:=oM_.1 hj;rcases h with ⟨rfl,rfl,rfl⟩ | ⟨b,c,cells,e,rfl,rfl,h3,h4,h5,h6⟩
 ·obtain rfl:k=0:=by simpa using hk
  refine⟨.av,?_,.inl ⟨Z,Z,Z⟩⟩;have:dh ev 0 0 none (some hi)=some (0,0):=om hh (nR_ _);simp only[fQ,hu,hx,d,this]
 have hl:(l.take k).length=k:=by simp_all
 have w:∀(i:Nat) (x:α),(l.take k)[i]?=some x->R x ((cells.drop (i*j.size)).take j.size):=fun i x hi=>by
  grind
 have hle:k*j.size<=cells.length:=Nat.le_trans (nM_ _ hk) h3;rcases h5 with ⟨n,rfl,h7,z⟩ | ⟨rfl,rfl⟩
 ·refine⟨.slice b 0 k (.known n),?_,.inr ⟨b,.known n,cells,e,by rw[hl],Z,by rw[hl];exact hle,w,.inl ⟨n,Z,by rw[hl];omega,z⟩,by rw[hl];omega⟩⟩;have:dh ev l.length n none (some hi)=some (0,k):=om hh oM;simp only[fQ,hu,hx,cutAt,this,cut,d]
  simp_all
 refine⟨.slice b 0 k (.upto j.size),?_,.inr ⟨b,.upto j.size,cells,e,by rw[hl],Z,by rw[hl];exact hle,w,.inr ⟨Z,Z⟩,by rw[hl];omega⟩⟩;have:dh ev l.length l.length none (some hi)=some (0,k):=om hh hk;simp only[fQ,hu,hx,this,d,show Nat.beq j.size j.size=true from Nat.beq_refl _,cond_true,Nat.zero_mul,Nat.sub_zero,Nat.add_zero]
end
section
variable {α:Type} {m E:Nat} {R:α->List V->Prop}
theorem yq {l l2:List α} {cells news Zv:List V} (hl:l.length*m<=cells.length) (h1:∀(i:Nat) (x:α),l[i]?=some x->R x ((cells.drop (i*m)).take m)) (hn:news.length=l2.length*m) (d:∀(i:Nat) (x:α),l2[i]?=some x->R x ((news.drop (i*m)).take m)):
  ∀(i:Nat) (x:α),(l++l2)[i]?=some x->R x (((cells.take (l.length*m)++(news++Zv)).drop (i*m)).take m):=by
 intro i x hx;have w:(cells.take (l.length*m)).length=l.length*m:=by simp_all
 by_cases hi:i<l.length
 ·rw[gL_ hi] at hx;have hle:(i+1)*m<=l.length*m:=nM_ _ hi
  grind [List.drop_take]
 rw[gR_ oM] at hx;have hlt:=(gA.1 hx).1;have hle:l.length*m<=i*m:=nM_ _ oM;have b:(i-l.length+1)*m<=l2.length*m:=nM_ _ hlt;rw[Nat.succ_mul] at b;rw[List.drop_append,List.drop_eq_nil_of_le oM,List.nil_append,w,<-Nat.sub_mul,List.drop_append_of_le_length oM,List.take_append_of_le_length (by grind)];exact d _ x hx
section
variable {P:Program} {K:KP} {L:Own}
theorem uU {l l2:List α} {u v2:V} {M:Own} {bv ev e:Nat} {cv:List V} {ts:Array TypeId} {t:TypeId} {O:N} (ho:ns m e R l u M) (ar:D O K ((bv,.row cv ev false)::(M++L)))
  (hx:bF (K.add bv (.row cv ev false)) m R l2 v2) (d:∀x vs,R x vs->cE vs=true) (hn:l2.length<=1000) (Q:1<=l2.length) (hl:l.length<=1000000)
  (ht:ts[0]?=some t) (hu:P.underlying t=some (.slice e)) (F:qW P e m=true) (h2:dC P ts[1]?=true):
  ∃O' u' M',fM P O ts u v2= .val u' O'/\ns m e R (l++l2) u' M'/\D O' K (M'++L):=by
 have hk:=ar.Cb;have w:D O K (M++L):=hk.weaken (KP.r9 _ _ _);rcases ho with ⟨rfl,rfl,rfl⟩ | ⟨b,c,cells,e',rfl,rfl,h3,h4,h5,h6⟩
 ·obtain⟨news,k1,k2,k3⟩:=qU (P:=P) hk hx d oM Q ht hu F h2;exact⟨_,_,[(O.next,.row news e false)],k1,.inr ⟨_,_,news,e,Z,Z,by simp_all,k3,.inr ⟨Z,Z⟩,by grind⟩,((hk.alloc (.row news e false)).weaken<|KP.r9 _ _ _)⟩
 obtain⟨news,s1,X,s3,s4⟩:=nN hk hx d;unfold qW at F;split at F
 ·rename_i j hj;simp only[bA_] at F;obtain⟨a1,a2,a3,a4⟩:=F;have hm:j.size=m:=nB a1;subst hm;have hz:((P.info? e).any fun j=>(j.zero.bind pP).any fun z=>(df z).any fun cs=>Nat.beq (dn cs) j.size)=true:=by rw[hj];exact a4
  have hb:=w.get 0 Z;have hlen:(l++l2).length=l.length+l2.length:=lA_;have hmul:(l.length+l2.length)*j.size=l.length*j.size+l2.length*j.size:=Nat.add_mul ..;unfold fM;rw[ht];dsimp only;rw[hu];dsimp only;rw[hj];dsimp only;rw[h2,a2,a3];simp only[Bool.and_self,cond_true];rw[s1];dsimp only;rw[hj] at hz;rw[s3,show Nat.ble l2.length 1048576=true by rw[nE_];omega,hz];simp only[Bool.and_self,cond_true];have hle:Nat.ble (0+l.length*j.size) (dn cells)=true:=by rw[nE_,bN];omega
  have A:takeN (dU cells 0) (l.length*j.size)=cells.take (l.length*j.size):=by rw[dp,dQ,List.drop_zero]
  have S:Nat.ble l.length 1048576=true:=by simp_all
  have hA:(cells.take (l.length*j.size)).length=l.length*j.size:=by simp_all
  have aa:l.length*j.size+news.length<=cells.length->dM news cells (0+l.length*j.size)=cells.take (l.length*j.size)++(news++cells.drop (l.length*j.size+news.length)):=fun hh=>by
   rw[nA_,nO _ _ _ oM,lQ_]
  have T:l.length*j.size+news.length<=cells.length->∀c',((∃n,c'=ql.known n/\(l++l2).length<=n/\n*j.size<=cells.length)∨(c'=ql.upto j.size/\e'=e))->ns j.size e R (l++l2) (.slice b 0 (l.length+l2.length) c') [(b,.row (dM news cells (0+l.length*j.size)) e' false)]:=fun hh c' C=>by
   have ab:(dM news cells (0+l.length*j.size)).length=cells.length:=by
    grind
   refine .inr ⟨b,c',_,e',by rw[hlen],Z,by simp_all,?_,by rw[ab];exact C,by rw[hlen];omega⟩;rw[aa hh];exact yq h3 h4 X s4
  have W:ns j.size e R (l++l2) (.slice O.next 0 (l.length+l2.length) (.upto j.size)) [(O.next,.row (cells.take (l.length*j.size)++news) e false)]:=by
   refine .inr ⟨_,_,_,e,by rw[hlen],Z,by simp_all,?_,.inr ⟨Z,Z⟩,by rw[hlen];omega⟩;have:=yq (Zv:=[]) h3 h4 X s4
   simp_all
  rcases h5 with ⟨n,rfl,h7,h8⟩ | ⟨rfl,rfl⟩
  ·dsimp only;cases hc:Nat.ble (l.length+l2.length) n with
   | true=>
    have C:l.length+l2.length<=n:=by simp_all
    have B:l.length*j.size+news.length<=cells.length:=by
     have:(l.length+l2.length)*j.size<=n*j.size:=nM_ _ C;rw[X];omega
    simp only[cond_true];rw[hb];dsimp only;rw[show Nat.ble (0+l.length*j.size+dn news) (dn cells)=true by rw[nE_,bN,bN];omega];simp only[cond_true];exact⟨_,_,[(b,_)],Z,T B _ (.inl ⟨n,Z,by rw[hlen];exact C,h8⟩),w.oI _⟩
   | false=>
    simp only[cond_false];rw[hb];dsimp only;rw[hle,S,A,dX];simp only[Bool.and_self,cond_true];exact⟨_,_,[(O.next,_)],Z,W,((w.alloc _).perm<|List.Perm.swap ..).pop⟩
  dsimp only
  have:Nat.beq l2.length 0=false:=by
   grind [nB]
  rw[this,Nat.beq_refl,S];simp only[Bool.and_self,cond_true,cond_false];rw[hb];dsimp only;cases hf:(Nat.ble 1 l.length && Nat.ble (0+l.length*j.size+dn news) (dn cells)) with
  | true=>
   have B:l.length*j.size+news.length<=cells.length:=by
    rw[bA_,nE_,nE_,bN,bN] at hf;omega
   simp only[cond_true];exact⟨_,_,[(b,_)],Z,T B _ (.inr ⟨Z,Z⟩),w.oI _⟩
  | false=>
   simp only[cond_false];rw[hle,Nat.beq_refl,A,dX];simp only[Bool.and_self,cond_true];exact⟨_,_,[(O.next,_)],Z,W,w.xr _⟩
 cases F
end
end
abbrev Rn:=Nat->Nat->Bool
def cS:Nat->(Nat->Bool)->Nat
 | 0,_=>0
 | n+1,p=>cS n p ||| (bif p n then 2 ^ n else 0)
theorem dk:∀(n:Nat) (p:Nat->Bool) (j:Nat),(cS n p).testBit j=(decide (j<n) && p j)
 | 0,p,j=>by simp[cS]
 | n+1,p,j=>by
  unfold cS;rw[Nat.testBit_or,dk n p j]
  by_cases h:j=n
  ·subst h;cases hp:p j<;>simp[Nat.testBit_two_pow]
  have b:decide (j<n+1)=decide (j<n):=by simp;omega
  rw[b];cases hp:p n<;>simp[Nat.testBit_two_pow]<;>omega
theorem H8 (n:Nat) (p:Nat->Bool):cS n p<2 ^ n:=by
 refine Nat.lt_pow_two_of_testBit _ fun i hi=>?_
 rw[dk];simp;omega
theorem gu {n:Nat} (h:n<=64) (p:Nat->Bool):cS n p<2 ^ 64:=Nat.lt_of_lt_of_le (H8 n p) (Nat.pow_le_pow_right oM h)
theorem uv {n:Nat} {p q:Nat->Bool} (h:∀j,j<n->p j=q j):cS n p=cS n q:=by
 refine Nat.eq_of_testBit_eq fun i=>?_
 rw[dk,dk]
 by_cases hi:i<n
 ·rw[h i hi]
 simp[hi]
theorem BA (n:Nat) (p q:Nat->Bool):cS n p ||| cS n q=cS n fun j=>p j || q j:=by
 refine Nat.eq_of_testBit_eq fun i=>?_
 rw[Nat.testBit_or,dk,dk,dk];cases decide (i<n)<;>simp
theorem GB (n:Nat) (p q:Nat->Bool):cS n p &&& cS n q=cS n fun j=>p j && q j:=by
 refine Nat.eq_of_testBit_eq fun i=>?_
 rw[Nat.testBit_and,dk,dk,dk];cases decide (i<n)<;>simp
theorem lL {n j:Nat} (p:Nat->Bool) (h:j<n):cS n p ||| 2 ^ j=cS n fun k=>p k || decide (k=j):=by
 refine Nat.eq_of_testBit_eq fun i=>?_
 rw[Nat.testBit_or,dk,dk,Nat.testBit_two_pow]
 by_cases hi:i<n
 ·simp only[hi,decide_true,Bool.true_and];congr 1;simp[eq_comm]
 have:¬j=i:=by omega
 simp[hi,this]
theorem vY (n:Nat):cS n (fun _=>false)=0:=by
 refine Nat.eq_of_testBit_eq fun i=>?_
 rw[dk];simp
theorem GD {n:Nat} {p q:Nat->Bool} (h:cS n p=cS n q) {j:Nat} (hj:j<n):p j=q j:=by
 have:=congrArg (fun x=>x.testBit j) h;simp only[dk,hj,decide_true,Bool.true_and] at this;exact this
theorem NN {j:Nat} (h:j<=9223372036854775807):wr .u64 (.ofNat j)= .ofNat j:=by
 have:Mq .u64 (.ofNat j)=true:=by show Nat.ble j 18446744073709551615=true;rw[nE_];omega
 unfold wr;rw[this];rfl
theorem Ap (j:Nat):(2:Int) ^ j= .ofNat (2 ^ j):=by show(2:Int) ^ j=((2 ^ j:Nat):Int);rw[Int.natCast_pow];rfl
theorem rG {x j:Nat} (h:j<64):H (Int.tmod (Int.fdiv (.ofNat x) (2 ^ min (Int.toNat (.ofNat j)) 64)) 2) 1=x.testBit j:=by
 have e1:min (Int.toNat (.ofNat j)) 64=j:=by show min j 64=j;omega
 rw[e1,Ap]
 have b:Int.fdiv (.ofNat x) (.ofNat (2 ^ j))= .ofNat (x/2 ^ j):=by
  show Int.fdiv ((x:Nat):Int) ((2 ^ j:Nat):Int)=_;rw[Int.fdiv_eq_ediv_of_nonneg _<|Int.natCast_nonneg _];rfl
 rw[b];have d:Int.tmod (.ofNat (x/2 ^ j)) 2= .ofNat (x/2 ^ j%2):=rfl;rw[d,Nat.testBit_eq_decide_div_mod_eq];show Nat.beq (x/2 ^ j%2) 1=_
 by_cases hh:x/2 ^ j%2=1
 ·rw[hh];rfl
 rw[decide_eq_false hh];cases hb:Nat.beq (x/2 ^ j%2) 1 with
 | false=>rfl
 | true=>exact absurd (nB hb) hh
section
variable {P:Program} {k:Bool} {ty:TypeId}
theorem E9 {x:Nat} (h:x<2 ^ 64):IntKind.u64.wrap ((x:Nat):Int)= .ofNat x:=by
 unfold IntKind.wrap;show(let m:=((x:Nat):Int)%(2 ^ 64:Int);if false && _ then _ else m)=_;simp only[Bool.false_and,Bool.false_eq_true,if_false];show((x:Nat):Int)%((2 ^ 64:Nat):Int)=((x:Nat):Int);rw[<-Int.natCast_emod,Nat.mod_eq_of_lt h]
theorem QI {x:Nat} (h:x<2 ^ 64):wr .u64 (.ofNat x)= .ofNat x:=by
 unfold wr;cases Mq .u64 (.ofNat x) with
 | true=>rfl
 | false=>exact E9 h
theorem KQ {x:Nat} (h:x<2 ^ 64):(BitVec.ofInt 64 (.ofNat x)).toNat=x:=by
 rw[show BitVec.ofInt 64 (.ofNat x)=BitVec.ofNat 64 x from BitVec.ofInt_natCast ..,BitVec.toNat_ofNat,Nat.mod_eq_of_lt h]
theorem Gh {j:Nat} (h:j<64):sG P k .shl ty (.int .u64 1) (.int .u64 (.ofNat j))=some (.int .u64 (.ofNat (2 ^ j))):=by
 have e:min (Int.toNat (.ofNat j)) 64=j:=by show min j 64=j;omega
 have:wr .u64 (1*2 ^ min (Int.toNat (.ofNat j)) 64)= .ofNat (2 ^ j):=by
  rw[e,Ap,Int.one_mul];exact QI<|Nat.pow_lt_pow_right oM h
 cases k<;>exact congrArg (fun z=>some (V.int .u64 z)) this
theorem J8 {x y:Nat} (hx:x<2 ^ 64) (hy:y<2 ^ 64):sG P k .or ty (.int .u64 (.ofNat x)) (.int .u64 (.ofNat y))=some (.int .u64 (.ofNat<|x ||| y)):=by
 have:IntKind.u64.wrap (((BitVec.ofInt 64 (.ofNat x) ||| BitVec.ofInt 64 (.ofNat y)).toNat:Nat):Int)= .ofNat (x ||| y):=by
  rw[BitVec.toNat_or,KQ hx,KQ hy];exact E9<|Nat.or_lt_two_pow hx hy
 cases k<;>exact congrArg (fun z=>some (V.int .u64 z)) this
theorem Pl {x y:Nat} (hx:x<2 ^ 64) (hy:y<2 ^ 64):sG P k .and ty (.int .u64 (.ofNat x)) (.int .u64 (.ofNat y))=some (.int .u64 (.ofNat<|x &&& y)):=by
 have:IntKind.u64.wrap (((BitVec.ofInt 64 (.ofNat x) &&& BitVec.ofInt 64 (.ofNat y)).toNat:Nat):Int)= .ofNat (x &&& y):=by
  rw[BitVec.toNat_and,KQ hx,KQ hy];exact E9<|Nat.and_lt_two_pow x hy
 cases k<;>exact congrArg (fun z=>some (V.int .u64 z)) this
theorem iA {G:Cx} {ev:Operand->Option V} {O:N} {s d:TypeId} {x:Operand} {j:Nat} (hj:j<=9223372036854775807) (hk:kindOf P (.convert s d x)= .pure) (b:P.underlying s=some (.int .i64)) (u:P.underlying d=some (.int .u64)) (hx:ev x=some (.int .i64 (.ofNat j))):dW P G ev O (.convert s d x)= .val (.int .u64 (.ofNat j)) O:=by
 rw[gY hk b u hx,NN hj]
end
def gU (x:Nat):V:=.int .u64 (.ofNat x)
def RU (x:Nat) (vs:List V):Prop:=vs= [gU x]
def bB (n:Nat) (R:Rn):List Nat:=(List.range n).map fun i=>cS n (R i)
theorem cM (n:Nat) (R:Rn):(bB n R).length=n:=by unfold bB;simp
theorem eb {n i:Nat} {R:Rn} (h:i<n):(bB n R)[i]?=some (cS n<|R i):=by unfold bB;simp[h]
theorem cL {n:Nat} {R S:Rn} (h:∀i j,i<n->j<n->R i j=S i j):bB n R=bB n S:=by
 unfold bB;refine List.map_congr_left fun i hi=>?_
 exact uv fun j hj=>h i j (List.mem_range.1 hi) hj
theorem nJ {n:Nat} {R S:Rn} (h:bB n R=bB n S) {i j:Nat} (hi:i<n) (hj:j<n):R i j=S i j:=by
 have:=congrArg (fun l=>l[i]?) h;simp only[eb hi,oJ_] at this;exact GD this hj
theorem EH (n:Nat):List.replicate n 0=bB n fun _ _=>false:=by
 refine List.ext_getElem? fun k=>?_
 by_cases hk:k<n
 ·rw[eb hk,vY,List.getElem?_replicate,if_pos hk]
 rw[gN_ (by simpa using Nat.le_of_not_lt hk),gN_ (by rw[cM];omega)]
theorem qO {n i:Nat} {R:Rn} {p:Nat->Bool}:(bB n R).set i (cS n p)=bB n fun a b=>bif a == i then p b else R a b:=by
 refine List.ext_getElem? fun k=>?_
 rw[List.getElem?_set]
 by_cases hk:k<n
 ·rw[eb hk,cM,eb hk]
  by_cases e:i=k
  ·subst e;simp[hk]
  have:(k == i)=false:=by simp;omega
  simp[e,this]
 have h1:(bB n R)[k]?=none:=by rw[gN_];rw[cM];omega
 have d:(bB n fun a b=>bif a == i then p b else R a b)[k]?=none:=by rw[gN_];rw[cM];omega
 rw[h1,d,cM];split
 ·split
  ·omega
  rfl
 rfl
theorem fK {K:KP} {l:List Nat} {b e n:Nat} {ro:Bool} (h:K b (.row (l.map gU) e ro)) (d:l.length=n) (hle:n<=1000000):bF K 1 RU l (.slice b 0 n (.known n)):=by
 subst d;refine .inr ⟨b,0,_,_,e,ro,Z,.inr ⟨_,Z,nR_ _⟩,h,by simp,by omega,fun i x hx=>?_⟩;obtain⟨h1,u⟩:=gA.1 hx;have h3:i<(l.map gU).length:=by rw[lM_];exact h1
 show((l.map gU).drop (0+i*1)).take 1= [gU x];rw[nA_,Nat.mul_one,List.drop_eq_getElem_cons h3,List.getElem_map,u];rfl
def HZ (K:KP) (n:Nat) (R:Rn) (vs:List V):Prop:=∃v,vs= [.int .i64 (.ofNat n),v]/\bF K 1 RU (bB n R) v
theorem HZ.mono {K K':KP} {n:Nat} {R:Rn} {vs:List V} (h:HZ K n R vs) (hk:KP.le K K'):HZ K' n R vs:=let ⟨v,h1,b⟩:=h;⟨v,h1,b.mono hk fun _ _ h=>h⟩
theorem zf {n i j:Nat} {R:Rn} (hj:j<n):(bB n R).set i (cS n (R i) ||| 2 ^ j)=bB n fun a b=>R a b || (a == i && b == j):=by
 rw[lL _ hj,qO];refine cL fun a b _ _=>?_
 by_cases e:a=i
 ·subst e;simp;rfl
 have:(a == i)=false:=by simp[e]
 simp[this]
inductive Tc (n:Nat) (R:Rn):Nat->Nat->Prop where
 | one {i j:Nat} (hi:i<n) (hj:j<n) (h:R i j=true):Tc n R i j
 | step {i j k:Nat} (h1:Tc n R i j) (h2:Tc n R j k):Tc n R i k
open Classical in
def yh (n:Nat) (R:Rn):Rn:=fun i j=>decide (Tc n R i j)
theorem qR {n:Nat} {R:Rn} {i j:Nat}:yh n R i j=true↔Tc n R i j:=by unfold yh;simp
theorem Tc.lt {n:Nat} {R:Rn} {i j:Nat} (h:Tc n R i j):i<n/\j<n:=by
 induction h with
 | one hi hj _=>exact⟨hi,hj⟩
 | step _ _ h1 b=>exact⟨h1.1,b.2⟩
theorem Tc.ua {n:Nat} {R:Rn} {f:Nat->Nat} (hf:∀i j,i<n->j<n->R i j=true->f i<f j) {i j:Nat} (h:Tc n R i j):f i<f j:=by
 induction h with
 | one hi hj h=>exact hf _ _ hi hj h
 | step _ _ h1 b=>exact Nat.lt_trans h1 b
def Hw (n:Nat) (R:Rn):Rn:=fun i k=>R i k || (List.range n).any fun j=>R i j && R j k
theorem JZ {n:Nat} {R:Rn} {i k:Nat} (h:R i k=true):Hw n R i k=true:=by unfold Hw;simp[h]
structure HQ (n:Nat) (R S:Rn):Prop where
 low:∀i j,i<n->j<n->R i j=true->S i j=true
 high:∀i j,i<n->j<n->S i j=true->Tc n R i j
theorem HQ.refl (n:Nat) (R:Rn):HQ n R R:=⟨fun _ _ _ _ h=>h,fun _ _ hi hj h=>.one hi hj h⟩
theorem HQ.sq {n:Nat} {R S:Rn} (h:HQ n R S):HQ n R (Hw n S):=by
 refine⟨fun i j hi hj d=>JZ (h.low i j hi hj d),fun i k hi hk b=>?_⟩;unfold Hw at b;simp only[Bool.or_eq_true,List.any_eq_true,List.mem_range,bA_] at b;rcases b with b | ⟨j,hj,h1,u⟩
 ·exact h.high i k hi hk b
 exact .step (h.high i j hi hj h1)<|h.high j k hj hk u
theorem HQ.fix {n:Nat} {R S:Rn} (h:HQ n R S) (he:bB n (Hw n S)=bB n S):bB n S=bB n (yh n R):=by
 refine cL fun i j hi hj=>?_
 have d:∀{i j},Tc n R i j->S i j=true:=by
  intro i j u;induction u with
  | one hi hj w=>exact h.low _ _ hi hj w
  | step b z h1 A=>
   rename_i i j k
   have:Hw n S i k=true:=by
    unfold Hw;simp only[Bool.or_eq_true,List.any_eq_true,List.mem_range,bA_];exact .inr ⟨j,b.lt.2,h1,A⟩
   rwa[nJ he b.lt.1 z.lt.2] at this
 cases hb:yh n R i j with
 | true=>exact d (qR.1 hb)
 | false=>
  cases B:S i j with
  | false=>rfl
  | true=>rw[qR.2<|h.high i j hi hj B] at hb;cases hb
def GN (n:Nat) (R:Rn):Nat:=((List.range n).map fun i=>((List.range n).filter<|R i).length).sum
theorem KW (n:Nat) (R:Rn):GN n R<=n*n:=by
 unfold GN
 have:∀l:List Nat,(l.map fun i=>((List.range n).filter<|R i).length).sum<=l.length*n:=by
  intro l;induction l with
  | nil=>simp
  | cons a l ih=>
   simp only[List.map_cons,List.sum_cons,List.length_cons,Nat.succ_mul];have:=List.length_filter_le (R a) (List.range n);rw[List.length_range] at this;omega
 simpa using this (List.range n)
theorem GV {g:XG} {i:Nat}:cZ g ⟨.ofNat 0,.ofNat i⟩=(g.init[i]?).map fun v=>⟨2,i,1,0,v⟩:=rfl
theorem gk {g:XG} {t i:Nat}:cZ g ⟨.ofNat (t+1),.ofNat i⟩=(g.threads[t]?).bind (·[i]?):=rfl
theorem wo {g g':XG} {tm:Nat} {row:List bW} {e w:bW} {id:bT} (hr:g.threads[tm]?=some row) (hi:g'.init=g.init) (ht:g'.threads=g.threads.set tm (row++[e])) (h:cZ g id=some w):cZ g' id=some w:=by
 obtain⟨th,ix⟩:=id;cases ix with
 | negSucc k=>rw[qu (by rw[eu];simp)] at h;cases h
 | ofNat i=>
  cases th with
  | negSucc k=>rw[tO (by rw[eu];simp)] at h;cases h
  | ofNat t=>
   cases t with
   | zero=>rw[GV] at h⊢;rw[hi];exact h
   | succ t=>
    rw[gk] at h⊢
    grind
theorem wm {g g':XG} {tm:Nat} {row:List bW} {e:bW} (d:g.threads[tm]?=some row) (u:g'.threads=g.threads.set tm (row++[e])):cZ g' ⟨.ofNat (tm+1),.ofNat row.length⟩=some e:=by
 have b:tm<g.threads.length:=(gA.1 d).1;rw[gk,u,List.getElem?_set,if_pos Z,if_pos b]
 simp_all
def ef (t:Nat):List bW->Nat->LM
 | [],_=>[]
 | e::l,n=>bif bd e then([.ofNat (t+1),.ofNat n],e.loc)::ef t l (n+1) else ef t l (n+1)
def fu:List (List bW)->Nat->LM
 | [],_=>[]
 | l::r,t=>ef t l 0++fu r (t+1)
theorem yW {k:List Int}:∀{m:LM} {i:Nat},(∀p∈m,p.1≠k)->pL m k i=none
 | [],_,_=>rfl
 | (k',v)::m,i,h=>by
  show(bif bY k k' then some (i,v) else pL m k (i+1))=none
  have:bY k k'=false:=by
   cases hh:bY k k' with
   | false=>rfl
   | true=>exact absurd (de.1 hh).symm (h (k',v)<|mS_ ..)
  rw[this];exact yW fun p hp=>h p (mC_ _ hp)
theorem wM {t:Nat}:∀{l:List bW} {n:Nat} {m:LM},(∀p∈m,∀k,n<=k->p.1≠[.ofNat (t+1),.ofNat k])->qZ t l n m=m++ef t l n
 | [],_,m,_=>by simp[qZ,ef]
 | e::l,n,m,h=>by
  show qZ t l (n+1) (wL t m n e)=m++(bif bd e then _ else _);unfold wL;cases hw:bd e with
  | false=>exact wM fun p hp k hk=>h p hp k oM
  | true=>
   show qZ t l (n+1) (pM m [.ofNat (t+1),.ofNat n] e.loc)=m++_
   have hp:pM m [.ofNat (t+1),.ofNat n] e.loc=m++[([.ofNat (t+1),.ofNat n],e.loc)]:=by
    unfold pM;rw[yW fun p hp=>h p hp n (nR_ _)]
   rw[hp,wM (l:=l) (n:=n+1) fun p hp k hk=>?_,lQ_]
   ·rfl
   grind
theorem lT {t:Nat}:∀{l:List bW} {n:Nat},∀p∈ef t l n,∃k,p.1= [.ofNat (t+1),.ofNat k]/\n<=k
 | [],_,p,h=>by cases h
 | e::l,n,p,h=>by
  have h':p∈(bif bd e then([.ofNat (t+1),.ofNat n],e.loc)::ef t l (n+1) else ef t l (n+1)):=h;cases hw:bd e with
  | false=>
   rw[hw] at h';obtain⟨k,h1,b⟩:=lT (l:=l) p h';exact⟨k,h1,by omega⟩
  | true=>
   rw[hw] at h';rcases mQ_.1 h' with rfl | h'
   ·exact⟨n,Z,nR_ _⟩
   obtain⟨k,h1,b⟩:=lT (l:=l) p h';exact⟨k,h1,by omega⟩
theorem B9:∀{ls:List (List bW)} {t:Nat} {m:LM},(∀p∈m,∀s k,t<=s->p.1≠[.ofNat (s+1),.ofNat k])->pd ls t m=m++fu ls t
 | [],_,m,_=>by simp[pd,fu]
 | l::ls,t,m,h=>by
  show pd ls (t+1) (qZ t l 0 m)=m++(ef t l 0++fu ls (t+1));rw[wM fun p hp k _=>h p hp t k (nR_ _),B9 (ls:=ls) (t:=t+1) fun p hp s k hs=>?_,lQ_];rcases List.mem_append.1 hp with hp | hp
  ·grind
  obtain⟨k',h1,_⟩:=lT p hp
  grind
theorem uK {ls:List (List bW)}:pd ls 0 []=fu ls 0:=by
 rw[B9 fun p hp=>by cases hp];rfl
def eM (loc:Nat) (l:List bT):LM:=l.map fun id=>(id.ints,.ofNat loc)
def ij:List (List bT)->Nat->LM
 | [],_=>[]
 | r::ls,loc=>eM loc r++ij ls (loc+1)
theorem kB {α:Type}:∀{m:List α} {j:Nat} {x:α},m[j]?=some x->m.Perm (x::m.eraseIdx j)
 | [],_,_,h=>by simp at h
 | y::m,0,x,h=>by
  have:y=x:=by simpa using h
  subst this;exact List.Perm.refl _
 | y::m,j+1,x,h=>by
  have h':m[j]?=some x:=by simpa using h
  exact(List.Perm.cons y<|kB h').trans (List.Perm.swap x y _)
theorem wS {m:LM} {k:List Int} {v:Int} (h:fO m k=some v):m.Perm ((k,v)::lj m k):=by
 unfold fO at h;unfold lj;cases b:pL m k 0 with
 | none=>rw[b] at h;cases h
 | some p=>
  obtain⟨j,w⟩:=p;rw[b] at h;have hw:w=v:=by simpa using h
  subst hw;exact kB (qE b).2
theorem yy {loc:Nat}:∀{l:List bT} {m m':LM},lB loc l m=some m'->m.Perm (eM loc l++m')
 | [],m,m',h=>by cases h;exact List.Perm.refl _
 | id::l,m,m',h=>by
  have h':(bif (fO m id.ints).isSome then(bif H ((fO m id.ints).getD 0) (.ofNat loc) then lB loc l (lj m id.ints) else none) else none)=some m':=h;cases b:fO m id.ints with
  | none=>rw[b] at h';cases h'
  | some v=>
   rw[b] at h';have h'':(bif H v (.ofNat loc) then lB loc l (lj m id.ints) else none)=some m':=h';cases he:H v (.ofNat loc) with
   | false=>rw[he] at h'';cases h''
   | true=>
    rw[he] at h'';rw[dK] at he;have hv:v= .ofNat loc:=of_decide_eq_true he;subst hv;exact(wS b).trans (List.Perm.cons _<|yy (l:=l) h'')
theorem yz:∀{ls:List (List bT)} {loc:Nat} {m m':LM},na ls loc m=some m'->m.Perm (ij ls loc++m')
 | [],_,m,m',h=>by cases h;exact List.Perm.refl _
 | r::ls,loc,m,m',h=>by
  have h':(lB loc r m).bind (na ls (loc+1))=some m':=h;cases b:lB loc r m with
  | none=>rw[b] at h';cases h'
  | some m1=>
   rw[b] at h';refine(yy b).trans ?_;show(eM loc r++m1).Perm ((eM loc r++ij ls (loc+1))++m');rw[lQ_];exact List.Perm.append_left _<|yz (ls:=ls) h'
theorem Er {g:XG} (h:eR g=true):(fu g.threads 0).Perm (ij g.order 0):=by
 unfold eR at h;cases b:na g.order 0 (pd g.threads 0 []) with
 | none=>rw[b] at h;cases h
 | some m=>
  rw[b] at h
  have h0:m= []:=by
   have h1:H (.ofNat m.length) (.ofNat 0)=true:=h;rw[eh] at h1
   simp_all
  have:=yz b;rw[h0,List.append_nil,uK] at this;exact this
theorem Ce {k:List Int} {v:Int}:∀{m:LM} {i:Nat},(m.map (·.1)).Nodup->(k,v)∈m->∃j,pL m k i=some (j,v)
 | (k',w)::m,i,b,h=>by
  rw[List.map_cons,List.nodup_cons] at b;show∃j,(bif bY k k' then some (i,w) else pL m k (i+1))=some (j,v);rcases mQ_.1 h with h1 | h1
  ·cases h1;rw[de.2 Z];exact⟨i,Z⟩
  have:bY k k'=false:=by
   cases hh:bY k k' with
   | false=>rfl
   | true=>
    have e:=de.1 hh
    simp_all
  rw[this];exact Ce (m:=m) b.2 h1
theorem Fo {loc:Nat}:∀{l:List bT} {m rest:LM},m.Perm (eM loc l++rest)->(m.map (·.1)).Nodup->∃m',lB loc l m=some m'/\m'.Perm rest/\(m'.map (·.1)).Nodup
 | [],m,rest,h,d=>⟨m,Z,h,d⟩
 | id::l,m,rest,h,d=>by
  have b:(id.ints,Int.ofNat loc)∈m:=h.mem_iff.2 (mS_ ..);obtain⟨j,hj⟩:=Ce (i:=0) d b;have z:fO m id.ints=some (.ofNat loc):=by unfold fO;rw[hj];rfl
  have hp:=wS z;have u:(lj m id.ints).Perm (eM loc l++rest):=List.Perm.cons_inv (hp.symm.trans h)
  have w:((lj m id.ints).map (·.1)).Nodup:=by
   have:=(hp.map (·.1)).nodup_iff.1 d
   rw[List.map_cons,List.nodup_cons] at this;exact this.2
  obtain⟨m',h1,A,h3⟩:=Fo (l:=l) u w;refine⟨m',?_,A,h3⟩;show(bif (fO m id.ints).isSome then(bif H ((fO m id.ints).getD 0) (.ofNat loc) then lB loc l (lj m id.ints) else none) else none)=some m';have he:H (.ofNat loc) (.ofNat loc)=true:=by rw[eh];simp
  rw[z];show(bif H (.ofNat loc) (.ofNat loc) then lB loc l (lj m id.ints) else none)=some m';rw[he];exact h1
theorem Fp:∀{ls:List (List bT)} {loc:Nat} {m:LM},m.Perm (ij ls loc)->(m.map (·.1)).Nodup->na ls loc m=some []
 | [],_,m,h,_=>by rw[show m= [] from h.eq_nil];rfl
 | r::ls,loc,m,h,b=>by
  obtain⟨m',h1,d,h3⟩:=Fo (l:=r) (rest:=ij ls (loc+1)) h b;show(lB loc r m).bind (na ls (loc+1))=some [];rw[h1];exact Fp (ls:=ls) d h3
theorem qh {t:Nat}:∀{l:List bW} {n:Nat},((ef t l n).map (·.1)).Nodup
 | [],_=>List.nodup_nil
 | e::l,n=>by
  show((bif bd e then([.ofNat (t+1),.ofNat n],e.loc)::ef t l (n+1) else ef t l (n+1):LM).map (·.1)).Nodup
  cases bd e with
  | false=>exact qh (l:=l)
  | true=>
   show(([Int.ofNat (t+1),Int.ofNat n],e.loc).1::(ef t l (n+1)).map (·.1)).Nodup
   rw[List.nodup_cons];refine⟨fun h=>?_,qh (l:=l)⟩;obtain⟨p,hp,he⟩:=List.mem_map.1 h;obtain⟨k,h1,h2⟩:=lT p hp
   grind
theorem zq:∀{ls:List (List bW)} {t:Nat},∀p∈fu ls t,∃s k,p.1= [.ofNat (s+1),.ofNat k]/\t<=s
 | [],_,p,h=>by cases h
 | l::ls,t,p,h=>by
  have h':p∈ef t l 0++fu ls (t+1):=h;rcases List.mem_append.1 h' with h' | h'
  ·obtain⟨k,h1,_⟩:=lT p h';exact⟨t,k,h1,nR_ _⟩
  obtain⟨s,k,h1,h2⟩:=zq (ls:=ls) p h';exact⟨s,k,h1,by omega⟩
theorem qg:∀{ls:List (List bW)} {t:Nat},((fu ls t).map (·.1)).Nodup
 | [],_=>List.nodup_nil
 | l::ls,t=>by
  show((ef t l 0++fu ls (t+1)).map (·.1)).Nodup
  rw[List.map_append,List.nodup_append];refine⟨qh,qg (ls:=ls),fun a d b hb hab=>?_⟩;obtain⟨p,hp,rfl⟩:=List.mem_map.1 d;obtain⟨q,hq,rfl⟩:=List.mem_map.1 hb;obtain⟨k,h1,_⟩:=lT p hp;obtain⟨s,k',h3,h4⟩:=zq q hq
  grind
theorem p5 {g:XG}:eR g=true↔(fu g.threads 0).Perm (ij g.order 0):=by
 refine⟨Er,fun h=>?_⟩;unfold eR;rw[uK,Fp h qg];rfl
theorem xO {t:Nat} {e:bW}:∀(l:List bW) (n:Nat),ef t (l++[e]) n=ef t l n++ef t [e] (n+l.length)
 | [],n=>rfl
 | x::l,n=>by
  show(bif bd x then([.ofNat (t+1),.ofNat n],x.loc)::ef t (l++[e]) (n+1) else ef t (l++[e]) (n+1))=(bif bd x then([.ofNat (t+1),.ofNat n],x.loc)::ef t l (n+1) else ef t l (n+1))++ef t [e] (n+(l.length+1));rw[xO l (n+1),show n+1+l.length=n+(l.length+1) by omega];cases bd x<;>rfl
theorem zt {row:List bW} {e:bW}:∀{ls:List (List bW)} {t tm:Nat},ls[tm]?=some row->(fu (ls.set tm (row++[e])) t).Perm (ef (t+tm) [e] row.length++fu ls t)
 | [],_,_,h=>by simp at h
 | l::ls,t,0,h=>by
  have:l=row:=by simpa using h
  subst this;show(ef t (l++[e]) 0++fu ls (t+1)).Perm (ef (t+0) [e] l.length++(ef t l 0++fu ls (t+1)));rw[xO,nA_,Nat.add_zero,<-lQ_];exact List.Perm.append_right _ List.perm_append_comm
 | l::ls,t,tm+1,h=>by
  have h':ls[tm]?=some row:=by simpa using h
  show(ef t l 0++fu (ls.set tm (row++[e])) (t+1)).Perm (ef (t+(tm+1)) [e] row.length++(ef t l 0++fu ls (t+1)));refine(List.Perm.append_left _<|zt h').trans ?_;rw[show t+1+tm=t+(tm+1) by omega,<-lQ_,<-lQ_];exact List.Perm.append_right _ List.perm_append_comm
theorem Ep {loc p:Nat} {id:bT} {r:List bT}:(eM loc (r.take p++id::r.drop p)).Perm ((id.ints,.ofNat loc)::eM loc r):=by
 have h:(r.take p++id::r.drop p).Perm (id::r):=by
  grind [List.perm_middle,List.take_append_drop]
 exact h.map fun x:bT=>(x.ints,Int.ofNat loc)
theorem Cp {p:Nat} {id:bT} {r:List bT}:∀{ls:List (List bT)} {loc ln:Nat},ls[ln]?=some r->(ij (ls.set ln (r.take p++id::r.drop p)) loc).Perm ((id.ints,.ofNat (loc+ln))::ij ls loc)
 | [],_,_,h=>by simp at h
 | l::ls,loc,0,h=>by
  have:l=r:=by simpa using h
  subst this;show(eM loc (l.take p++id::l.drop p)++ij ls (loc+1)).Perm ((id.ints,.ofNat (loc+0))::(eM loc l++ij ls (loc+1)));exact List.Perm.append_right _ Ep
 | l::ls,loc,ln+1,h=>by
  have h':ls[ln]?=some r:=by simpa using h
  show(eM loc l++ij (ls.set ln (r.take p++id::r.drop p)) (loc+1)).Perm ((id.ints,.ofNat (loc+(ln+1)))::(eM loc l++ij ls (loc+1)));refine(List.Perm.append_left _<|Cp h').trans ?_;rw[show loc+1+ln=loc+(ln+1) by omega];exact List.perm_middle
theorem td {g:XG} {t:Nat}:∀{l:List bW} {f:List bT} {n:Nat},f.length=l.length->(p7 g t l f n=true↔∀i e q,l[i]?=some e->f[i]?=some q->uQ g t (n+i) e q=true)
 | [],f,n,h=>⟨fun _ i e q h1=>by simp at h1,fun _=>Z⟩
 | x::l,[],n,h=>by cases h
 | x::l,y::f,n,h=>by
  have hl:f.length=l.length:=by simpa using h
  show(bif uQ g t n x y then p7 g t l f (n+1) else false)=true↔_;constructor
  ·intro hh i e q h1 b;cases d:uQ g t n x y with
   | false=>rw[d] at hh;cases hh
   | true=>
    rw[d] at hh;cases i with
    | zero=>
     have e1:x=e:=by simpa using h1
     have u:y=q:=by simpa using b
     subst e1 u;exact d
    | succ i=>
     have:=(td hl).1 hh i e q (by simpa using h1) (by simpa using b);rwa[show n+1+i=n+(i+1) by omega] at this
  intro hh;rw[show uQ g t n x y=true from hh 0 x y Z Z];refine(td hl).2 fun i e q h1 b=>?_
  have:=hh (i+1) e q (by simpa using h1) (by simpa using b);rwa[show n+(i+1)=n+1+i by omega] at this
theorem qN {g:XG}:∀{ls:List (List bW)} {fs:List (List bT)} {t:Nat},fs.length=ls.length->(ll g ls fs t=true↔∀i l f,ls[i]?=some l->fs[i]?=some f->f.length=l.length/\∀j e q,l[j]?=some e->f[j]?=some q->uQ g (t+i) j e q=true)
 | [],f,n,h=>⟨fun _ i e q h1=>by simp at h1,fun _=>Z⟩
 | x::l,[],n,h=>by cases h
 | x::l,y::f,t,h=>by
  have hl:f.length=l.length:=by simpa using h
  show(bif H (.ofNat y.length) (.ofNat x.length) then(bif p7 g t x y 0 then ll g l f (t+1) else false) else false)=true↔_;constructor
  ·intro hh i e q h1 d;cases he:H (.ofNat y.length) (.ofNat x.length) with
   | false=>rw[he] at hh;cases hh
   | true=>
    rw[he] at hh;cases u:p7 g t x y 0 with
    | false=>rw[u] at hh;cases hh
    | true=>
     rw[u] at hh;cases i with
     | zero=>
      have e1:x=e:=by simpa using h1
      have A:y=q:=by simpa using d
      subst e1 A;refine⟨dG he,fun j w z b k2=>?_⟩;have:=(td<|dG he).1 u j w z b k2;rwa[nA_] at this
     | succ i=>
      have:=(qN hl).1 hh i e q (by simpa using h1) (by simpa using d);rwa[show t+1+i=t+(i+1) by omega] at this
  intro hh;obtain⟨h1,d⟩:=hh 0 x y Z Z;rw[show H (.ofNat y.length) (.ofNat x.length)=true by rw[eh];simp[h1]];rw[show p7 g t x y 0=true from(td h1).2 fun i e q b k2=>by have:=d i e q b k2;rwa[nA_]];refine(qN hl).2 fun i e q b k2=>?_
  have:=hh (i+1) e q (by simpa using b) (by simpa using k2);rwa[show t+(i+1)=t+1+i by omega] at this
structure dD (g:XG):Prop where
 threads:g.threads.length<=4
 init:g.init.length<=6
 short:∀(i:Nat) (l:List bW),g.threads[i]?=some l->l.length<=14
 from_:g.from_.length=g.threads.length
 order:g.order.length=g.init.length
 rows:∀(i:Nat) (l:List bW) (f:List bT),g.threads[i]?=some l->g.from_[i]?=some f->f.length=l.length/\∀(j:Nat) (e:bW) (q:bT),l[j]?=some e->f[j]?=some q->uQ g i j e q=true
 perm:(fu g.threads 0).Perm (ij g.order 0)
theorem dz {g:XG}:cd g=0↔dD g:=by
 constructor
 ·intro h;obtain⟨u,w,z,d,A,B,C⟩:=dc h;refine⟨u,w,fun i l hl=>z l (gB_ hl),d,A,fun i l f b k2=>?_,p5.1 C⟩;have:=(qN d).1 B i l f b k2
  simp_all
 intro h;unfold cd
 have h1:eP g=false:=by
  unfold eP;rw[show cq 4 (.ofNat g.threads.length)=false by rw[show(4:Int)= .ofNat 4 from Z,jz];have:=h.threads;simp;omega];rw[show cq 6 (.ofNat g.init.length)=false by rw[show(6:Int)= .ofNat 6 from Z,jz];have:=h.init;simp;omega];show(g.threads.any fun l=>cq 14 (.ofNat l.length))=false;rw[List.any_eq_false];intro l hl;obtain⟨i,hi⟩:=gO_ hl;have:=h.short i l hi;rw[show(14:Int)= .ofNat 14 from Z,jz];simp;omega
 rw[h1];rw[show H (.ofNat g.from_.length) (.ofNat g.threads.length)=true by rw[eh];simp[h.from_]];rw[show H (.ofNat g.order.length) (.ofNat g.init.length)=true by rw[eh];simp[h.order]];rw[show ll g g.threads g.from_ 0=true from(qN h.from_).2 fun i l f b k2=>by have:=h.rows i l f b k2;rwa[nA_]];rw[p5.2 h.perm];rfl
theorem Cm {g g':XG} {t n:Nat} {e:bW} {q:bT} (hm:∀id w,cZ g id=some w->cZ g' id=some w) (hi:g'.init=g.init) (he:cZ g ⟨.ofNat (t+1),.ofNat n⟩=some e) (h:uQ g t n e q=true):uQ g' t n e q=true:=by
 unfold uQ at h⊢;rw[hi];cases b:bm e (.ofNat g.init.length) with
 | false=>rw[b] at h;cases h
 | true=>
  rw[b] at h;have h:cF g ⟨.ofNat (t+1),.ofNat n⟩ q=true:=h;show cF g' ⟨.ofNat (t+1),.ofNat n⟩ q=true;unfold cF at h⊢;rw[he] at h;rw[hm _ _ he];cases hq:cZ g q with
  | none=>
   simp_all
  | some w=>
   simp_all
def s7 (o:List (List bT)) (e:bW) (id:bT) (pl:Int):List (List bT):=
 bif bd e then o.set e.loc.toNat (((o[e.loc.toNat]?).getD []).take (pl.toNat-1)++id::((o[e.loc.toNat]?).getD []).drop (pl.toNat-1)) else o
theorem tR {g:XG} {tm:Nat} {e:bW} {fr:bT} {pl:Int} {row:List bW} {frow:List bT}:eo g tm e fr pl row frow=⟨g.init,g.threads.set tm (row++[e]),g.from_.set tm (frow++[fr]),s7 g.order e ⟨.ofNat (tm+1),.ofNat row.length⟩ pl⟩:=rfl
theorem Hk {o:List (List bT)} {e:bW} {tm n:Nat} {pl:Int} (h:bd e=true->∃(ln:Nat) (r:List bT),e.loc= .ofNat ln/\o[ln]?=some r):(ij (s7 o e ⟨.ofNat (tm+1),.ofNat n⟩ pl) 0).Perm (ef tm [e] n++ij o 0):=by
 unfold s7;show List.Perm _ ((bif bd e then([.ofNat (tm+1),.ofNat n],e.loc)::[] else [])++ij o 0);cases he:bd e with
 | false=>simp_all
 | true=>
  obtain⟨ln,r,h1,b⟩:=h he;rw[h1];simp only[cond_true];rw[show(Int.ofNat ln).toNat=ln from Z,b];have:=Cp (p:=pl.toNat-1) (id:=⟨.ofNat (tm+1),.ofNat n⟩) (loc:=0) b;rw[nA_] at this;exact this
theorem og {g:XG} {e:bW} {pl:Int} (h:cW g e pl=false) (hw:bd e=true):∃(ln:Nat) (r:List bT),e.loc= .ofNat ln/\g.order[ln]?=some r/\(bV g e.loc).length=r.length+1:=by
 unfold cW at h;rw[hw] at h;have h:(bif cq pl 1 then true else cq (.ofNat (bV g e.loc).length) pl)=false:=h;cases h1:cq pl 1 with
 | true=>rw[h1] at h;cases h
 | false=>
  rw[h1] at h;obtain⟨m,rfl⟩:=sj h1;have b:cq (.ofNat (bV g e.loc).length) (.ofNat (m+1))=false:=h;have:=bz b;exact xP oM
theorem kK {g a:XG} {th pl:Int} {e:bW} {fr:bT} (h:gD g th e fr pl=(some a,0)):cd g=0/\∃tm row frow,th= .ofNat (tm+1)/\g.threads[tm]?=some row/\g.from_[tm]?=some frow/\cq (.ofNat row.length) 14=true/\cW g e pl=false/\a=eo g tm e fr pl row frow/\cd a=0:=by
 cases u:H (cd g) 0 with
 | false=>rw[Bm u] at h;cases h
 | true=>
  refine⟨sx u,?_⟩;cases h1:cq th 1 with
  | true=>rw[Bn u h1] at h;cases h
  | false=>
   cases z:cq (.ofNat g.threads.length) th with
   | true=>rw[Bl u h1 z] at h;cases h
   | false=>
    obtain⟨tm,rfl⟩:=sj h1;have w:tm<g.threads.length:=by have:=bz z;omega
    obtain⟨row,d⟩:=cT w;obtain⟨frow,b⟩:=cT (show tm<g.from_.length by rw[(dc<|sx u).2.2.2.1];exact w);rw[kz u d b] at h;cases h3:cq (.ofNat row.length) 14 with
    | false=>rw[h3] at h;cases h
    | true=>
     rw[h3] at h;rcases Bool.eq_false_or_eq_true (cW g e pl) with h4 | h4
     ·rw[h4] at h;cases h
     rw[h4] at h;cases h5:H (cd<|eo g tm e fr pl row frow) 0 with
     | false=>rw[h5] at h;cases h
     | true=>
      rw[h5] at h;have A:(some<|eo g tm e fr pl row frow,(0:Int))=(some a,0):=h;have B:eo g tm e fr pl row frow=a:=by cases A;rfl
      subst B;exact⟨tm,row,frow,Z,d,b,h3,h4,Z,sx h5⟩
theorem Cq {o:List (List bT)} {e:bW} {id:bT} {pl:Int}:(s7 o e id pl).length=o.length:=by
 grind [s7]
theorem Am {o:List (List bT)} {e:bW} {id:bT} {pl:Int} {k:Nat} (h:bd e=true->e.loc.toNat≠k):(s7 o e id pl)[k]?=o[k]?:=by
 grind [s7]
theorem dL (x:Int):H x x=true:=by rw[dK];simp
structure PU {α:Type} (c:α->α->Int):Prop where
 PW:∀x y,c y x= -c x y
 small:∀x y,-1<=c x y/\c x y<=1
 trans:∀x y z,c x y<=0->c y z<=0->c x z<=0
theorem PU.pull {α β:Type} {c:α->α->Int} (h:PU c) (f:β->α):PU fun x y=>c (f x) (f y):=⟨fun x y=>h.PW _ _,fun x y=>h.small _ _,fun x y z=>h.trans _ _ _⟩
theorem OP (a b:Int):(bif H a 0 then b else a)=if a=0 then b else a:=by
 rw[dK]
 simp_all
theorem jb {α:Type} {l:List α} {ls:List (List α)}:iK (l::ls)=l.length+iK ls:=by unfold iK;simp
theorem zw {t:Nat}:∀{l:List bW} {n:Nat},∀p∈ef t l n,∃k,p.1= [.ofNat (t+1),.ofNat (n+k)]/\k<l.length
 | [],_,p,h=>by cases h
 | e::l,n,p,h=>by
  have h':p∈(bif bd e then([.ofNat (t+1),.ofNat n],e.loc)::ef t l (n+1) else ef t l (n+1)):=h
  have key:p∈ef t l (n+1)->∃k,p.1= [.ofNat (t+1),.ofNat (n+k)]/\k<(e::l).length:=fun h=>by
   obtain⟨k,h1,h2⟩:=zw (l:=l) p h;exact⟨k+1,by rw[h1,show n+1+k=n+(k+1) by omega],by rw[List.length_cons];omega⟩
  cases hw:bd e with
  | false=>rw[hw] at h';exact key h'
  | true=>
   rw[hw] at h';rcases mQ_.1 h' with rfl | h'
   ·exact⟨0,Z,by rw[List.length_cons];omega⟩
   exact key h'
theorem zr:∀{ls:List (List bW)} {t:Nat},∀p∈fu ls t,∃(s k:Nat) (l:List bW),p.1= [.ofNat (t+s+1),.ofNat k]/\ls[s]?=some l/\k<l.length
 | [],_,p,h=>by cases h
 | l::ls,t,p,h=>by
  have h':p∈ef t l 0++fu ls (t+1):=h;rcases List.mem_append.1 h' with h' | h'
  ·obtain⟨k,h1,b⟩:=zw p h';exact⟨0,k,l,by rw[h1,nA_],Z,b⟩
  obtain⟨s,k,l',h1,b,h3⟩:=zr (ls:=ls) p h';exact⟨s+1,k,l',by rw[h1,show t+1+s+1=t+(s+1)+1 by omega],by simpa using b,h3⟩
theorem wZ:∀{ls:List (List bT)} {loc ln:Nat} {r:List bT} {x:bT},ls[ln]?=some r->x∈r->(x.ints,Int.ofNat (loc+ln))∈ij ls loc
 | [],_,_,_,_,h,_=>by simp at h
 | l::ls,loc,0,r,x,h,hx=>by
  have:l=r:=by simpa using h
  subst this;exact List.mem_append_left _<|List.mem_map.2 ⟨x,hx,Z⟩
 | l::ls,loc,ln+1,r,x,h,hx=>by
  have h':ls[ln]?=some r:=by simpa using h
  have:=wZ (loc:=loc+1) h' hx;rw[show loc+1+ln=loc+(ln+1) by omega] at this;exact List.mem_append_right _ this
theorem Lw {g:XG} (h:dD g) {tm ln:Nat} {row:List bW} {r:List bT} (hr:g.threads[tm]?=some row) (d:g.order[ln]?=some r):(⟨.ofNat (tm+1),.ofNat row.length⟩:bT)∉r:=fun hx=>by
 have h1:=h.perm.mem_iff.2 (wZ (loc:=0) d hx);obtain⟨s,k,l,b,h3,h4⟩:=zr _ h1;rw[show 0+s+1=s+1 by omega] at b;have b: [Int.ofNat (tm+1),Int.ofNat row.length]= [.ofNat (s+1),.ofNat k]:=b
 grind
theorem su {α:Type}:∀{ls:List (List α)} {tm:Nat} {row:List α} {e:α},ls[tm]?=some row->iK (ls.set tm (row++[e]))=iK ls+1
 | [],_,_,_,h=>by simp at h
 | l::ls,0,row,e,h=>by
  have:l=row:=by simpa using h
  subst this;show iK ((l++[e])::ls)=_;rw[jb,jb,lA_,List.length_singleton];omega
 | l::ls,tm+1,row,e,h=>by
  have h':ls[tm]?=some row:=by simpa using h
  show iK (l::ls.set tm (row++[e]))=_;rw[jb,jb,su h'];omega
def El (id:bT) (y:bT):Bool:= !(bY y.ints id.ints)
theorem Ja {id y:bT} (h:y≠id):El id y=true:=by
 unfold El;rw[bT.same,kT.2 h];rfl
theorem FL {α:Type} {p:α->Bool} {x:α} (hx:p x=true):∀{a b:List α} {i:Nat},(∀y∈a,p y=false)->fB p (a++x::b) i= .ofNat (i+a.length)
 | [],b,i,_=>by
  show(bif p x then Int.ofNat i else _)=_;rw[hx];rfl
 | y::a,b,i,h=>by
  show(bif p y then Int.ofNat i else fB p (a++x::b) (i+1))=_;rw[h y<|mS_ ..];show fB p (a++x::b) (i+1)=_;rw[FL hx fun z d=>h z (mC_ _ d),List.length_cons,show i+1+a.length=i+(a.length+1) by omega]
theorem filter_all {id:bT} {l:List bT} (h:id∉l):l.filter (El id)=l:=List.filter_eq_self.2 fun y hy=>Ja fun e=>h (e ▸ hy)
theorem DT {id:bT} {a b:List bT} (ha:id∉a) (hb:id∉b):(a++id::b).filter (El id)=a++b:=by
 have h:El id id=false:=by unfold El;rw[bT.same,de.2 Z];rfl
 grind [filter_all]
theorem Gu {g h:XG} {th pl:Int} {e:bW} {fr:bT} (K:gD g th e fr pl=(some h,0)):∃(tm:Nat) (row:List bW),th= .ofNat (tm+1)/\g.threads[tm]?=some row/\cd g=0/\cd h=0/\cZ h ⟨.ofNat (tm+1),.ofNat row.length⟩=some e/\DD h=DD g+1/\
  (cq 0 pl=true->bd e=true/\fB (fun y=>bY (⟨.ofNat (tm+1),.ofNat row.length⟩:bT).ints y.ints) (bV h e.loc) 0=pl)/\(∀id w,cZ g id=some w->cZ h id=some w)/\
  ∀loc:Nat,loc<g.init.length->(bV h (.ofNat loc)).filter (El ⟨.ofNat (tm+1),.ofNat row.length⟩)=bV g (.ofNat loc):=by
 obtain⟨C,tm,row,frow,rfl,d,q1,l1,b,rfl,ch⟩:=kK K;have rg:=dz.1 C;have e1:H (cd g) 0=true:=by rw[C];rfl
 have E:H (cd<|eo g tm e fr pl row frow) 0=true:=by rw[ch];rfl
 have F:∀(ln:Nat) (r:List bT),g.order[ln]?=some r->(⟨.ofNat (tm+1),.ofNat row.length⟩:bT)∉(⟨0,.ofNat ln⟩:bT)::r:=fun ln r u hm=>by
  rcases mQ_.1 hm with hm | hm
  ·grind
  exact Lw rg d u hm
 have z:bd e=true->∃(ln pm:Nat) (r:List bT),e.loc= .ofNat ln/\pl= .ofNat (pm+1)/\g.order[ln]?=some r/\pm<=r.length/\bV (eo g tm e fr pl row frow) (.ofNat ln)=(⟨0,.ofNat ln⟩::r.take pm)++⟨.ofNat (tm+1),.ofNat row.length⟩::r.drop pm:=fun hw=>by
  obtain⟨ln,r,h1,B,h3⟩:=og b hw;unfold cW at b;rw[hw] at b;have b:(bif cq pl 1 then true else cq (.ofNat (bV g e.loc).length) pl)=false:=b;cases h4:cq pl 1 with
  | true=>simp_all
  | false=>
   rw[h4] at b;obtain⟨pm,rfl⟩:=sj h4;have h5:cq (.ofNat (bV g e.loc).length) (.ofNat (pm+1))=false:=b;have h6:=bz h5;refine⟨ln,pm,r,h1,Z,B,by omega,?_⟩
   have G:(eo g tm e fr (.ofNat (pm+1)) row frow).order[ln]?=some (r.take pm++⟨.ofNat (tm+1),.ofNat row.length⟩::r.drop pm):=by
    rw[Ac hw h1 B]
    grind
   rw[ew E G];rfl
 refine⟨tm,row,Z,d,C,ch,wm d Z,?_,fun hp=>?_,fun id w hw=>wo d Z Z hw,fun loc A=>?_⟩
 ·unfold DD;rw[e1,E];show g.init.length+iK (g.threads.set tm (row++[e]))=g.init.length+iK g.threads+1;rw[su d];omega
 ·have hw:bd e=true:=by
   cases hw:bd e with
   | true=>rfl
   | false=>
    unfold cW at b;rw[hw] at b;have b:(!H pl 0)=false:=b;have:=sx (fX b);subst this;cases hp
  refine⟨hw,?_⟩;obtain⟨ln,pm,r,h1,rfl,h3,h4,h5⟩:=z hw;rw[h1,h5,FL (p:=fun y:bT=>bY (⟨.ofNat (tm+1),.ofNat row.length⟩:bT).ints y.ints) (de.2 Z) fun y hy=>kT.2 fun he=>?_]
  ·simp_all
  have aa:y=(⟨.ofNat (tm+1),.ofNat row.length⟩:bT):=by
   have:bY y.ints (⟨.ofNat (tm+1),.ofNat row.length⟩:bT).ints=true:=de.2 he.symm;rw[bT.same] at this;exact de.1 this
  grind
 obtain⟨r,u⟩:=cT (show loc<g.order.length by rw[rg.order];exact A);rw[ew e1 u]
 by_cases hw:bd e=true/\e.loc.toNat=loc
 ·obtain⟨ln,pm,r',h1,rfl,h3,h4,h5⟩:=z hw.1
  grind [DT,List.take_append_drop]
 have G:(eo g tm e fr pl row frow).order[loc]?=some r:=by
  show(s7 g.order e ⟨.ofNat (tm+1),.ofNat row.length⟩ pl)[loc]?=_;rw[Am fun h1 B=>hw ⟨h1,B⟩,u]
 rw[ew E G,filter_all<|F loc r u]
def rY:List Nat->Nat->Option Nat
 | [],n=>some n
 | c::r,n=>if 48<=c/\c<=57 then rY r (10*n+(c-48)) else none
def oG (s:List Nat):Option Nat:=if s.length=0∨4<s.length∨(1<s.length/\s[0]?=some 48) then none else rY s 0
theorem sI {s:List Nat} {i c n:Nat} (h:s[i]?=some c) (b:¬(48<=c/\c<=57)):rY (s.drop i) n=none:=by
 rw[bX h];show(if _ then _ else _)=_;rw[if_neg b]
theorem wh {s:List Nat} {i c n:Nat} (h:s[i]?=some c) (b:48<=c/\c<=57):rY (s.drop i) n=rY (s.drop (i+1)) (10*n+(c-48)):=by
 rw[bX h];show(if _ then _ else _)=_;rw[if_pos b]
theorem wg {s:List Nat} {i n:Nat} (h:s.length<=i):rY (s.drop i) n=some n:=by rw[ej h];rfl
theorem eqv {a b:Int} (h:H a b=true):a=b:=by rw[dK] at h;simp_all
def qf (b:Bool):Int:=bif b then 1 else 0
def MR (f:BitVec 64->BitVec 64->BitVec 64) (a b:Int):Int:=wr .i64 (IntKind.u64.wrap (f (BitVec.ofInt 64<|wr .u64 a)<|BitVec.ofInt 64<|wr .u64 b).toNat)
def Hi (op a:Int):Int:=bif H op 3 then wr .i64 (wr .u64<|Int.sub 0<|wr .u64 a) else qf (H a 0)
def oN (op a b:Int):Int:=
 bif H op 5 then qf (bif bf (H a 0) then true else bf (H b 0)) else
 bif H op 6 then qf (bif bf (H a 0) then bf (H b 0) else false) else
 bif H op 7 then qf (H a b) else
 bif H op 8 then qf (bf<|H a b) else
 bif H op 9 then qf (cq a b) else
 bif H op 10 then qf (bf<|cq b a) else
 bif H op 11 then MR (· ||| ·) a b else
 bif H op 12 then MR (· ^^^ ·) a b else
 bif H op 13 then MR (· &&& ·) a b else
 bif H op 14 then wr .i64 (wr .u64<|Int.add (wr .u64 a)<|wr .u64 b) else
 bif H op 15 then wr .i64 (wr .u64<|Int.sub (wr .u64 a)<|wr .u64 b) else
 wr .i64 (wr .u64<|Int.mul (wr .u64 a)<|wr .u64 b)
def rZ (op:Int) (l:List Int):Int×Int:=
 bif (bif (bif H op 3 then true else H op 4) then H (.ofNat l.length) 1 else false) then(Hi op ((l[0]?).getD 0),0) else
 bif (bif (bif bf (cq op 5) then bf (cq 16 op) else false) then H (.ofNat l.length) 2 else false) then(oN op ((l[0]?).getD 0) ((l[1]?).getD 0),0) else(0,2)
def QN (op:Int) (l:List Int):Int:=(rZ op l).1
def nv (br:List Int):Nat->XE->Int
 | 0,_=>0
 | k+1,.mk op num name kids=>bif H op 1 then num else bif H op 2 then(br[(oG name).getD 0]?).getD 0 else QN op (kids.map<|nv br k)
def fN (op:Int):Int:=bif (bif H op 3 then true else H op 4) then 1 else 2
def gm (br:Int):Nat->XE->Bool
 | 0,_=>false
 | k+1,.mk op num name kids=>
  bif H op 1 then(bif bf (cq num 0) then(bif uE name [] then H (.ofNat kids.length) 0 else false) else false) else
  bif H op 2 then(match oG name with | some n=>(bif cq (.ofNat n) br then(bif H num 0 then H (.ofNat kids.length) 0 else false) else false) | none=>false) else
  bif (bif (bif H op 3 then true else H op 4) then false else(bif cq op 5 then true else cq 16 op)) then false else
  bif (bif bf (H num 0) then true else bif bf (uE name []) then true else bf (H (.ofNat kids.length)<|fN op)) then false else
  kids.all (gm br k)
def km (f:XE->Int->Option Int):List XE->Int->Option Int
 | [],m=>some m
 | x::r,m=>(f x m).bind (km f r)
def ss:Nat->XE->Int->Int->Option Int
 | 0,_,_,_=>none
 | k+1,.mk _ _ _ kids,deep,size=>bif (bif cq 2000 (wr .i64<|Int.add size 1) then true else cq 32 deep) then none else km (fun x m=>ss k x (wr .i64<|Int.add deep 1) m) kids (wr .i64<|Int.add size 1)
theorem uX {f:XE->Int->Option Int} {l:List XE} {i:Nat} {m:Int} {x:XE} (hx:l[i]?=some x) (h:(f x m).isSome=false):km f (l.drop i) m=none:=by
 rw[bX hx];show(f x m).bind _=none
 simp_all
theorem CO {f:XE->Int->Option Int} {l:List XE} {i:Nat} {m s:Int} {x:XE} (hx:l[i]?=some x) (h:f x m=some s):km f (l.drop i) m=km f (l.drop (i+1)) s:=by
 rw[bX hx];show(f x m).bind _=_;rw[h];rfl
theorem xB {f:XE->Int->Option Int} {l:List XE} {i:Nat} {m:Int} (h:l.length<=i):km f (l.drop i) m=some m:=by rw[ej h];rfl
structure kx where
 xq:Bool
 loc:Bool
 order:Bool
 to:Bool
 exprs:Nat
def mW:List kx:=[⟨false,false,false,false,0⟩,⟨true,false,false,false,1⟩,⟨true,true,true,false,0⟩,⟨false,true,true,false,1⟩,⟨true,true,true,false,2⟩,⟨true,true,true,false,1⟩,⟨true,true,true,false,1⟩,⟨false,false,true,false,0⟩,⟨false,false,false,false,1⟩,⟨false,false,false,false,1⟩,⟨false,false,false,true,0⟩,⟨false,false,false,true,1⟩,⟨false,false,false,false,0⟩,⟨false,false,false,false,0⟩]
def eC (n least most:Int) (must:Bool):Bool:=bif must then(bif bf (cq n least) then cq n most else false) else H n 0
def gJ (br nins:Int) (k:Nat) (x:XI) (h:kx):Bool:=
 bif bf (eC x.xq 0 br h.xq) then false else bif bf (eC x.loc 0 6 h.loc) then false else bif bf (eC x.order 1 7 h.order) then false else bif bf (eC x.to 0 nins h.to) then false else
 bif bf (H (.ofNat x.exprs.length) (.ofNat h.exprs)) then false else x.exprs.all (gm br k)
def gW (br nins:Int) (k:Nat) (x:XI):Bool:=
 bif cq x.kind 1 then false else bif cq 13 x.kind then false else
 match mW[x.kind.toNat]? with
 | some h=>gJ br nins k x h
 | none=>false
def xC (k:Nat) (x:XI):Bool:=x.exprs.all fun e=>(ss k e 1 0).isSome
def kX (x:XI):Bool:=bif H x.kind 10 then true else bif H x.kind 12 then true else H x.kind 13
def dR (k:Nat) (c:XC):Int:=
 bif cq 16 c.br then 3 else bif cq 4000 (.ofNat c.ins.length) then 3 else
 bif bf (c.ins.all<|xC k) then 3 else
 bif cq c.br 0 then 2 else bif H (.ofNat c.ins.length) 0 then 2 else
 bif bf (c.ins.all<|gW c.br (.ofNat c.ins.length) k) then 2 else
 match c.ins[c.ins.length-1]? with
 | some x=>bif kX x then 0 else 2
 | none=>2
def ft (x:XI) (at_:Nat):List Int:=
 bif H x.kind 10 then [x.to] else bif H x.kind 11 then [.ofNat (at_+1),x.to] else bif H x.kind 12 then [] else bif H x.kind 13 then [] else [.ofNat (at_+1)]
def dw (c:XC) (i:Nat):List Nat:=match c.ins[i]? with | some x=>(ft x i).map Int.toNat | none=>[]
structure DS where
 st:List Nat
 gone:List Nat
 out:List Nat
 path:List Nat
def l7 (nx:Nat->List Nat) (s:DS) (at_:Nat):Option DS:=
 let g:=(s.gone[at_]?).getD 0
 match(nx at_)[g]? with
 | none=>some {s with st:=s.st.set at_ 2,out:=s.out++[at_],path:=s.path.dropLast}
 | some to=>
  let s':={s with gone:=s.gone.set at_ (g+1)}
  if(s.st[to]?).getD 0=2 then some s' else if(s.st[to]?).getD 0=1 then none else some {s' with st:=s.st.set to 1,path:=s.path++[to]}
def Be (nx:Nat->List Nat):Nat->DS->Option (List Nat)
 | 0,_=>none
 | f+1,s=>match s.path.getLast? with
  | none=>some s.out
  | some at_=>(l7 nx s at_).bind (Be nx f)
def BM (n:Nat):DS:=⟨(List.replicate n 0).set 0 1,List.replicate n 0,[],[0]⟩
def total (nx:Nat->List Nat) (n:Nat):Nat:=((List.range n).map fun i=>(nx i).length).sum
def fj (c:XC):Option (List Nat):=Be (dw c) (2*total (dw c) c.ins.length+2) (BM c.ins.length)
def jt (k:Nat) (c:XC):Bool:=bif bf (H (dR k c) 0) then false else(fj c).isSome
structure Od (nx:Nat->List Nat) (n:Nat) (s:DS):Prop where
 KF:s.st.length=n
 sQ:s.gone.length=n
 gone:∀(i g:Nat),s.gone[i]?=some g->g<=(nx i).length
 path:∀i∈s.path,i<n/\s.st[i]?=some 1
 out:∀i∈s.out,i<n
 nodup:s.path.Nodup
 fresh:∀(i g:Nat),s.st[i]?=some 0->s.gone[i]?=some g->g=0
 done:∀(i:Nat),s.st[i]?=some 2->i∈s.out
 ub:∀(k i:Nat),s.out[k]?=some i->∀to∈nx i,∃k',k'<k/\s.out[k']?=some to
 ways:∀(j p g:Nat),s.path[j]?=some p->s.gone[p]?=some g->∀(m to:Nat),m<g->(nx p)[m]?=some to->to∈s.out∨s.path[j+1]?=some to
 zero:0∈s.out∨0∈s.path
 size:∀(i g:Nat),s.st[i]?=some g->g<=2
def iS (nx:Nat->List Nat) (n:Nat) (s:DS):Nat:=2*(total nx n-s.gone.sum)+s.path.length
section
variable {nx:Nat->List Nat} {n:Nat} {s s':DS}
theorem Gf:∀{l:List Nat} {i g g':Nat},l[i]?=some g->(l.set i g').sum+g=l.sum+g'
 | [],_,_,_,h=>by simp at h
 | x::l,0,g,g',h=>by
  simp only[List.getElem?_cons_zero,oJ_] at h;subst h;simp only[List.set_cons_zero,List.sum_cons];omega
 | x::l,i+1,g,g',h=>by
  have:=Gf (l:=l) (i:=i) (g:=g) (g':=g') (by simpa using h);simp only[List.set_cons_succ,List.sum_cons];omega
theorem Ge {f:Nat->Nat}:∀(l:List Nat) (k:Nat),(∀i g,l[i]?=some g->g<=f (k+i))->l.sum<=((List.range' k l.length).map f).sum
 | [],_,_=>by simp
 | x::l,k,h=>by
  have h0:=h 0 x Z;have:=Ge l (k+1) (fun i g b=>by have:=h (i+1) g (by simpa using b);rwa[show k+1+i=k+(i+1) by omega]);simp only[List.length_cons,List.range'_succ,List.map_cons,List.sum_cons]
  grind
theorem zR (b:0<n):Od nx n (BM n) where
 KF:=by simp[BM]
 sQ:=by simp[BM]
 gone i g hg:=by
  have:g=0:=by
   have:=gB_ hg;exact eR_ this
  omega
 path i hi:=by
  obtain rfl:i=0:=by simpa [BM] using hi
  exact⟨b,by simp[BM,b]⟩
 out i hi:=by simp[BM] at hi
 nodup:=by simp[BM]
 fresh i g _ hg:=eR_ (gB_ hg)
 done i hi:=by
  exfalso;have hi:((List.replicate n 0).set 0 1)[i]?=some 2:=hi
  grind
 ub k i hk:=by simp[BM] at hk
 ways j p g hj hg m to hm:=by
  have:g=0:=eR_ (gB_ hg);omega
 zero:=.inr (by simp[BM])
 size i g hg:=by
  have hi:((List.replicate n 0).set 0 1)[i]?=some g:=hg
  grind
theorem I5:iS nx n (BM n)=2*total nx n+1:=by
 have:(BM n).gone.sum=0:=by
  have:∀m,(List.replicate m 0).sum=0:=by simp_all
  exact this n
 unfold iS;rw[this];rfl
theorem Jh {l:List Nat} {a:Nat} {P:List Nat} (h:l.Nodup) (hl:l=P++[a]) {j:Nat} (hj:l[j]?=some a):j=P.length:=by
 grind
theorem pA (h:Od nx n s) (ab:∀i,i<n->∀to∈nx i,to<n) {a:Nat} (ha:s.path.getLast?=some a) (w:l7 nx s a=some s'):Od nx n s'/\iS nx n s'+1<=iS nx n s/\s'.out.length+iS nx n s'<=s.out.length+iS nx n s:=by
 obtain⟨P,L⟩:=List.getLast?_eq_some_iff.1 ha;have M:a∈s.path:=by rw[L];simp
 obtain⟨Q,ar⟩:=h.path a M;obtain⟨g,R⟩:∃g,s.gone[a]?=some g:=⟨_,gC (by rw[h.sQ];exact Q)⟩
 have aE:∀i∈P,i≠a:=fun i hi hh=>by
  have:=h.nodup;grind
 have ac:s.path[P.length]?=some a:=by rw[L];simp
 have a0:s.path[P.length+1]?=none:=by rw[L];simp
 unfold l7 at w;rw[R] at w;simp only[Option.getD_some] at w;cases z:(nx a)[g]? with
 | none=>
  rw[z] at w;simp only[oJ_] at w;subst w;have hle:(nx a).length<=g:=List.getElem?_eq_none_iff.1 z;have F:s.path.dropLast=P:=by rw[L];simp
  refine⟨⟨by simp[h.KF],h.sQ,h.gone,?_,?_,?_,?_,?_,?_,?_,?_,?_⟩,?_,?_⟩
  ·intro i hi;have hi:i∈P:=by simp_all
   have:=h.path i (by rw[L];simp[hi])
   grind
  ·intro i hi;rcases List.mem_append.1 hi with hi | hi
   ·exact h.out i hi
   simp_all
  ·show s.path.dropLast.Nodup;rw[F];have:=h.nodup;grind
  ·intro i g' h1 G
   by_cases e:i=a
   ·grind
   have h1:(s.st.set a 2)[i]?=some 0:=h1;rw[List.getElem?_set_ne (fun x=>e x.symm)] at h1;exact h.fresh i g' h1 G
  ·intro i hi;show i∈s.out++[a]
   by_cases e:i=a
   ·subst e;simp
   have hi:(s.st.set a 2)[i]?=some 2:=hi;rw[List.getElem?_set_ne (fun x=>e x.symm)] at hi;exact List.mem_append_left _<|h.done i hi
  ·intro k i hk to C;have hk:(s.out++[a])[k]?=some i:=hk;show∃k',k'<k/\(s.out++[a])[k']?=some to
   by_cases S:k<s.out.length
   ·rw[gL_ S] at hk;obtain⟨k',h1,G⟩:=h.ub k i hk to C;exact⟨k',h1,by grind⟩
   have hlt':=(gA.1 hk).1;simp only[lA_,List.length_singleton] at hlt';obtain rfl:k=s.out.length:=by omega
   have am:i=a:=by simpa using hk.symm
   subst am;obtain⟨m,hm⟩:=gO_ C;have hm':=(gA.1 hm).1;rcases h.ways _ _ _ ac R m to oM hm with h1 | h1
   ·grind [gO_]
   simp_all
  ·intro j p g' hj d m to hm u;have hj:s.path.dropLast[j]?=some p:=hj;rw[F] at hj;have hjl:=(gA.1 hj).1;show to∈s.out++[a]∨s.path.dropLast[j+1]?=some to;rcases h.ways j p g' (by grind) d m to hm u with h1 | h1
   ·simp_all
   grind
  ·show 0∈s.out++[a]∨0∈s.path.dropLast;rw[F];rcases h.zero with h1 | h1
   ·simp_all
   grind
  ·intro i g' hi;have hi:(s.st.set a 2)[i]?=some g':=hi;rw[List.getElem?_set] at hi;split at hi
   ·simp_all
   exact h.size i g' hi
  ·grind [iS]
  grind [iS]
 | some to=>
  rw[z] at w;dsimp only at w;have a1:g<(nx a).length:=(gA.1 z).1;have T:to<n:=ab a Q to (gB_ z);obtain⟨v,hv⟩:∃v,s.st[to]?=some v:=⟨_,gC (by rw[h.KF];exact T)⟩;rw[hv] at w;simp only[Option.getD_some] at w
  have A:∀(i g':Nat),(s.gone.set a (g+1))[i]?=some g'->g'<=(nx i).length:=fun i g' hi=>by
   rw[List.getElem?_set] at hi;split at hi
   ·grind
   exact h.gone i g' hi
  have hsum:=Gf (l:=s.gone) (i:=a) (g:=g) (g':=g+1) R
  have S:(s.gone.set a (g+1)).sum<=total nx n:=by
   have:=Ge (f:=fun i=>(nx i).length) (s.gone.set a (g+1)) 0 (fun i g' d=>by simp_all);rw[List.length_set,h.sQ] at this;unfold total;rwa[List.range_eq_range']
  have b:∀(p g':Nat),p≠a->(s.gone.set a (g+1))[p]?=some g'->s.gone[p]?=some g':=fun p g' hp d=>by
   grind
  have B:∀(g':Nat),(s.gone.set a (g+1))[a]?=some g'->g'=g+1:=fun g' d=>by
   grind
  split at w
  ·rename_i W;subst W;simp only[oJ_] at w;subst w;refine⟨⟨h.KF,by simp[h.sQ],A,h.path,h.out,h.nodup,?_,h.done,h.ub,?_,h.zero,h.size⟩,?_,?_⟩
   ·intro i g' h1 G;refine h.fresh i g' h1<|b i g' (fun e=>?_) G
    simp_all
   ·intro j p g' hj d m to' hm u
    by_cases hp:p=a
    ·subst hp;obtain rfl:=B g' d
     by_cases K:m<g
     ·exact h.ways j p g hj R m to' K u
     obtain rfl:m=g:=by omega
     rw[z] at u;cases u;exact .inl<|h.done _ hv
    exact h.ways j p g' hj (b p g' hp d) m to' hm u
   ·unfold iS;dsimp only;omega
   unfold iS;dsimp only;omega
  split at w
  ·cases w
  rename_i W a2;simp only[oJ_] at w;subst w;have ao:v=0:=by have:=h.size to v hv;omega
  subst ao;have X:to∉s.path:=fun hh=>by have:=(h.path to hh).2;simp_all
  have ap:to≠a:=fun e=>X (by rw[e];exact M)
  have E:∀i,i≠to->(s.st.set to 1)[i]?=s.st[i]?:=fun i hi=>List.getElem?_set_ne (fun e=>hi e.symm)
  refine⟨⟨by simp[h.KF],by simp[h.sQ],A,?_,h.out,?_,?_,?_,h.ub,?_,?_,?_⟩,?_,?_⟩
  ·intro i hi;rcases List.mem_append.1 hi with hi | hi
   ·obtain⟨h1,G⟩:=h.path i hi
    grind
   grind
  ·show(s.path++[to]).Nodup;refine List.nodup_append.2 ⟨h.nodup,by simp,fun x hx y hy=>?_⟩
   grind
  ·intro i g' h1 G
   by_cases e:i=to
   ·grind
   have h1b:(s.st.set to 1)[i]?=some 0:=h1;rw[E i e] at h1b;refine h.fresh i g' h1b<|b i g' (fun e=>?_) G
   simp_all
  ·intro i hi
   by_cases e:i=to
   ·grind
   have hi:(s.st.set to 1)[i]?=some 2:=hi;rw[E i e] at hi;exact h.done i hi
  ·intro j p g' hj d m to' hm u;have aa:(s.path++[to])[j]?=some p:=hj;clear hj;have hj:=aa;clear aa;show to'∈s.out∨(s.path++[to])[j+1]?=some to'
   by_cases hjl:j<s.path.length
   ·rw[gL_ hjl] at hj
    by_cases hp:p=a
    ·subst hp;obtain rfl:=B g' d;have hjP:=Jh h.nodup L hj
     by_cases K:m<g
     ·rcases h.ways j p g hj R m to' K u with h1 | h1
      ·exact .inl h1
      simp_all
     grind
    rcases h.ways j p g' hj (b p g' hp d) m to' hm u with h1 | h1
    ·exact .inl h1
    grind
   have hlt':=(gA.1 hj).1;simp only[lA_,List.length_singleton] at hlt';obtain rfl:j=s.path.length:=by omega
   have aq:to=p:=by simpa using hj
   subst aq;have:=h.fresh to g' hv (b to g' ap d);omega
  ·rcases h.zero with h1 | h1
   ·exact .inl h1
   grind
  ·intro i g' hi;have hi:(s.st.set to 1)[i]?=some g':=hi;rw[List.getElem?_set] at hi;split at hi
   ·grind
   exact h.size i g' hi
  ·grind [iS]
  grind [iS]
structure fD (nx:Nat->List Nat) (n:Nat) (out:List Nat):Prop where
 ua:∀(k i:Nat),out[k]?=some i->∀to∈nx i,∃k',k'<k/\out[k']?=some to
 zero:0∈out
 lt:∀i∈out,i<n
theorem rX (b:∀i,i<n->∀to∈nx i,to<n):∀{f:Nat} {s:DS} {out:List Nat},Od nx n s->Be nx f s=some out->fD nx n out
 | 0,_,_,_,h=>by cases h
 | f+1,s,out,hw,h=>by
  unfold Be at h;cases hl:s.path.getLast? with
  | none=>
   rw[hl] at h;simp only[oJ_] at h;subst h;have:s.path= []:=List.getLast?_eq_none_iff.1 hl;exact⟨hw.ub,by rcases hw.zero with h1 | h1;exact h1;rw[this] at h1;simp at h1,hw.out⟩
  | some a=>
   rw[hl] at h;dsimp only at h;cases d:l7 nx s a with
   | none=>rw[d] at h;cases h
   | some s'=>rw[d] at h;exact rX b (pA hw b hl d).1 h
end
structure TS where
 at_:Nat
 br:List Int
 events:List bW
 asked:Nat
 fin:Int
 asks:Bool
def js (k:Nat) (br:List Int) (x:XI) (i:Nat):Int:=((x.exprs[i]?).map<|nv br k).getD 0
def fZ (k:Nat) (x:XI) (s:TS):TS×Bool:=
 bif H x.kind 1 then({s with br:=s.br.set x.xq.toNat (js k s.br x 0),at_:=s.at_+1},true) else
 bif H x.kind 3 then({s with events:=s.events++[⟨2,x.loc,x.order,0,js k s.br x 0⟩],at_:=s.at_+1},true) else
 bif H x.kind 7 then({s with events:=s.events++[⟨4,0,x.order,0,0⟩],at_:=s.at_+1},true) else
 bif H x.kind 8 then(bif H (js k s.br x 0) 0 then({s with fin:=2},false) else({s with at_:=s.at_+1},true)) else
 bif H x.kind 9 then(bif H (js k s.br x 0) 0 then({s with fin:=3},false) else({s with at_:=s.at_+1},true)) else
 bif H x.kind 10 then({s with at_:=x.to.toNat},true) else
 bif H x.kind 11 then(bif H (js k s.br x 0) 0 then({s with at_:=x.to.toNat},true) else({s with at_:=s.at_+1},true)) else
 bif H x.kind 12 then({s with fin:=4},false) else
 bif H x.kind 13 then({s with fin:=1},false) else
 ({s with asks:=true},false)
def cj (k:Nat) (c:XC) (s:TS):TS×Bool:=match c.ins[s.at_]? with | some x=>fZ k x s | none=>(s,false)
def tD (k:Nat) (c:XC):Nat->TS->TS
 | 0,s=>s
 | f+1,s=>bif (cj k c s).2 then tD k c f (cj k c s).1 else(cj k c s).1
def gT (c:XC):Nat:=((fj c).getD []).length
def jl (k:Nat) (c:XC):TS:=tD k c (gT c) ⟨0,List.replicate c.br.toNat 0,[],0,0,false⟩
structure sA where
 kind:Int
 loc:Int
 order:Int
 a:Int
 b:Int
def sA.ints (x:sA):List Int:=[x.kind,x.loc,x.order,x.a,x.b]
def Gy (k:Nat) (x:XI) (br:List Int):sA:=⟨x.kind,x.loc,x.order,js k br x 0,js k br x 1⟩
def jk (k:Nat) (c:XC) (s:TS):sA:=match c.ins[s.at_]? with | some x=>Gy k x s.br | none=>⟨0,0,0,0,0⟩
def bU (a:sA) (v:Int):bW:=
 bif H a.kind 2 then⟨1,a.loc,a.order,v,0⟩ else
 bif H a.kind 4 then(bif H v a.a then⟨3,a.loc,a.order,v,a.b⟩ else⟨1,a.loc,a.order,v,0⟩) else
 bif H a.kind 5 then⟨3,a.loc,a.order,v,wr .i64<|wr .u64<|Int.add (wr .u64 v)<|wr .u64 a.a⟩ else
 bif H a.kind 6 then⟨3,a.loc,a.order,v,a.a⟩ else⟨0,0,0,0,0⟩
def n7 (a:sA):Int:=bif H a.kind 2 then 0 else bif H a.kind 4 then 0 else bif H a.kind 5 then 0 else bif H a.kind 6 then 0 else 2
def Mw (c:XC) (s:TS):Nat:=match c.ins[s.at_]? with | some x=>x.xq.toNat | none=>0
def eF (k:Nat) (c:XC) (s:TS) (v:Int):TS:=
 {s with events:=s.events++[bU (jk k c s) v],br:=s.br.set (Mw c s) v,asked:=s.asked+1,at_:=s.at_+1,asks:=false}
def ea (k:Nat) (c:XC) (s:TS) (v:Int):TS:=tD k c (gT c) (eF k c s v)
def jJ (k:Nat) (c:XC):List Int->TS->TS
 | [],s=>s
 | v::r,s=>bif s.asks then jJ k c r (ea k c s v) else s
def cP (l:List bW):List Int:=(l.filter cD).map bW.read
def fb (k:Nat) (c:XC) (a:List Int):TS:=jJ k c a (jl k c)
def ru (s:TS) (l:List bW):Bool:=bif cq (.ofNat s.events.length) (.ofNat l.length) then false else bY (s.events.take l.length) l
def jU (k:Nat) (c:XC):Int:=bif jt k c then 0 else bif bf (H (dR k c) 0) then dR k c else 2
structure pg where
 event:bW
 ask:sA
 fin:Int
def j0:bW:=⟨0,0,0,0,0⟩
def ia:sA:=⟨0,0,0,0,0⟩
def Aj:pg:=⟨j0,ia,0⟩
def lk (k:Nat) (c:XC) (s:TS) (l:List bW):pg×Int:=
 bif bf (ru s l) then(Aj,2) else
 match s.events[l.length]? with
 | some e=>(⟨e,ia,0⟩,0)
 | none=>bif s.asks then(⟨j0,jk k c s,0⟩,0) else(⟨j0,ia,s.fin⟩,0)
def bZ (k:Nat) (c:XC) (l:List bW):pg×Int:=
 bif bf (H (jU k c) 0) then(Aj,jU k c) else lk k c (fb k c<|cP l) l
structure eS (k:Nat) (c:XC):Prop where
 F4:0<=c.br
 Az:c.br<=16
 len:c.ins.length<=4000
 pos:0<c.ins.length
 right:∀x∈c.ins,gW c.br (.ofNat c.ins.length) k x=true
 last:∀x,c.ins[c.ins.length-1]?=some x->kX x=true
theorem px {k:Nat} {c:XC} (h:dR k c=0):eS k c:=by
 unfold dR at h;cases h1:cq 16 c.br with
 | true=>rw[h1] at h;cases h
 | false=>
 rw[h1] at h;cases b:cq 4000 (.ofNat c.ins.length) with
 | true=>rw[b] at h;cases h
 | false=>
 rw[b] at h;cases h3:bf (c.ins.all<|xC k) with
 | true=>rw[h3] at h;cases h
 | false=>
 rw[h3] at h;cases h4:cq c.br 0 with
 | true=>rw[h4] at h;cases h
 | false=>
 rw[h4] at h;cases h5:H (.ofNat c.ins.length) 0 with
 | true=>rw[h5] at h;cases h
 | false=>
 rw[h5] at h;cases h6:bf (c.ins.all<|gW c.br (.ofNat c.ins.length) k) with
 | true=>rw[h6] at h;cases h
 | false=>
 rw[h6] at h;simp only[cond_false] at h;rw[eu,decide_eq_false_iff_not] at h1 b h4;have b:¬(4000:Int)<(c.ins.length:Int):=b
 have hp:0<c.ins.length:=by
  grind
 refine⟨by omega,by omega,by omega,hp,fun x hx=>?_,fun x hx=>?_⟩
 ·have h6:=bl h6
  simp_all
 grind
theorem iV {br nins:Int} {k:Nat} {x:XI} (h:gW br nins k x=true):∃(n:Nat) (sh:kx),x.kind= .ofNat n/\1<=n/\n<=13/\mW[n]?=some sh/\gJ br nins k x sh=true:=by
 unfold gW at h;cases h1:cq x.kind 1 with
 | true=>rw[h1] at h;cases h
 | false=>
 rw[h1] at h;cases b:cq 13 x.kind with
 | true=>rw[b] at h;cases h
 | false=>
 rw[b] at h;simp only[cond_false] at h;rw[eu,decide_eq_false_iff_not] at h1 b
 grind
theorem m5 {n least most:Int} (h:eC n least most true=true):least<=n/\n<most:=by
 unfold eC at h;simp only[cond_true] at h;cases h1:cq n least with
 | true=>rw[h1] at h;cases h
 | false=>
 rw[h1] at h;have h:cq n most=true:=h;rw[eu,decide_eq_false_iff_not] at h1;rw[eu,decide_eq_true_iff] at h;omega
structure KH (br nins:Int) (k:Nat) (x:XI) (sh:kx):Prop where
 xq:eC x.xq 0 br sh.xq=true
 loc:eC x.loc 0 6 sh.loc=true
 order:eC x.order 1 7 sh.order=true
 to:eC x.to 0 nins sh.to=true
 exprs:x.exprs.length=sh.exprs
 all:∀e∈x.exprs,gm br k e=true
theorem ki {br nins:Int} {k:Nat} {x:XI} {sh:kx} (h:gJ br nins k x sh=true):KH br nins k x sh:=by
 unfold gJ at h;cases h1:eC x.xq 0 br sh.xq with
 | false=>rw[h1] at h;cases h
 | true=>
 cases b:eC x.loc 0 6 sh.loc with
 | false=>rw[h1,b] at h;cases h
 | true=>
 cases h3:eC x.order 1 7 sh.order with
 | false=>rw[h1,b,h3] at h;cases h
 | true=>
 cases h4:eC x.to 0 nins sh.to with
 | false=>rw[h1,b,h3,h4] at h;cases h
 | true=>
 rw[h1,b,h3,h4] at h;have h:(bif bf (H (.ofNat x.exprs.length) (.ofNat sh.exprs)) then false else x.exprs.all (gm br k))=true:=h;cases h5:H (.ofNat x.exprs.length) (.ofNat sh.exprs) with
 | false=>rw[h5] at h;cases h
 | true=>
 rw[h5] at h;have h:x.exprs.all (gm br k)=true:=h;rw[eh,decide_eq_true_iff] at h5;exact⟨h1,b,h3,h4,h5,aE_.1 h⟩
theorem sY {k:Nat} {c:XC} (h:eS k c):∀i,i<c.ins.length->∀to∈dw c i,to<c.ins.length:=by
 intro i hi to b;unfold dw at b;rw[gC hi] at b;dsimp only at b;have hx:=h.right c.ins[i] (List.getElem_mem hi);have hl:=h.last;generalize aa:c.ins[i]=x at b hx;obtain⟨n,sh,z,n1,w,u,hr⟩:=iV hx;have hr:=ki hr;have hto':=hr.to
 have d:i+1<c.ins.length∨kX x=true:=by
  grind
 unfold ft at b;unfold kX at d;rw[z] at b d;have key:∀m:Nat,m=n->(∀y,(sh.to=true->0<=y/\y<(c.ins.length:Int))->y=x.to->True):=fun _ _ _ _ _=>trivial
 have tole:sh.to=true->0<=x.to/\x.to<(c.ins.length:Int):=fun e=>by rw[e] at hto';exact m5 hto'
 match n,n1,w with
 | 1,_,_ | 2,_,_ | 3,_,_ | 4,_,_ | 5,_,_ | 6,_,_ | 7,_,_ | 8,_,_ | 9,_,_=>
  have e:to=i+1:=List.mem_singleton.1 (show to∈[i+1] from b);rcases d with e1 | e1
  ·omega
  cases e1
 | 10,_,_=>
  have e:to=x.to.toNat:=List.mem_singleton.1 (show to∈[x.to.toNat] from b);have:=tole (by cases u;rfl);omega
 | 11,_,_=>
  have e:to=i+1∨to=x.to.toNat:=by grind
  have:=tole (by cases u;rfl);rcases e with e | e
  ·rcases d with e1 | e1
   ·omega
   cases e1
  omega
 | 12,_,_ | 13,_,_=>exact absurd (show to∈([]:List Nat) from b) (by simp)
theorem oy {k:Nat} {c:XC} (h:jt k c=true):eS k c/\∃out,fj c=some out/\fD (dw c) c.ins.length out:=by
 unfold jt at h;cases h1:H (dR k c) 0 with
 | false=>rw[h1] at h;cases h
 | true=>
  rw[h1] at h;have h:(fj c).isSome=true:=h;have hc:=px (sx h1);obtain⟨out,b⟩:=Option.isSome_iff_exists.1 h;exact⟨hc,out,b,rX (sY hc) (zR hc.pos) b⟩
theorem N9 {n:Nat} (h:n<=9223372036854775807):wr .i64 (Int.ofNat n)= .ofNat n:=by
 show(bif Nat.ble n 9223372036854775807 then _ else _)=_
 grind [nE_]
theorem Pv {a b:Int}:cq a b=false↔b<=a:=by rw[eu];simp
def Ou (s:List Nat) (vs:List V):Prop:=vs= [.str s]
theorem Lv (a b:Nat):(bif cq (.ofNat a) (.ofNat b) then(.ofNat b:Int) else .ofNat a)= .ofNat (max a b):=by
 cases h:cq (.ofNat a) (.ofNat b) with
 | true=>have:=bk h;grind
 | false=>grind [bz,Nat.max_eq_left]
end Go.Ev
namespace Go.Ev
variable [Env]
open Go.Proofs
set_option maxRecDepth 4000
set_option maxHeartbeats 8000000
theorem tA {G:Cx} (u:Plain G) {K:KP} (n le mo:Int) (mu:Bool) {O:N} {L:Own} (ar:D O K L):a8 Tryz.prog G 217 [.int .i64 n,.int .i64 le,.int .i64 mo,.bool mu] O fun v O'=>v= .bool (eC n le mo mu)/\D O' K L:=by
 refine QO u Tryz.func217 Z<|Pz 9 Z<|Y Z (dq Z) Z<|Qi 2 Z<|aF Z (fun b=>?_) (fun b=>?_)
 ·have h10b:=cC b;refine Qh 9 Z ?_;exact aB Z Z ⟨cB (by unfold eC bf;simp only[h10b,ct,cf]),ar⟩
 have h10b:=bl b;refine PB 7 Z<|ky Z (an Z) (fun d=>?_) (fun d=>?_)
 ·refine Qk 8 Z ?_;exact aB Z Z ⟨cB (by unfold eC bf;simp only[h10b,d,ct,cf]),ar⟩
 refine Qk 8 Z ?_;exact aB Z Z ⟨cB (by unfold eC bf;simp only[h10b,d,ct,cf]),ar⟩
theorem JQ {c:Nat} (h:cq (.ofNat c) 48=true):¬(48<=c/\c<=57):=by have:c<48:=bk (b:=48) h;omega
theorem JP {c:Nat} (h:cq 57 (.ofNat c)=true):¬(48<=c/\c<=57):=by have:57<c:=bk (a:=57) h;omega
theorem qK {c:Nat} (h:cq (.ofNat c) 48=false) (h':cq 57 (.ofNat c)=false):48<=c/\c<=57:=by have:48<=c:=bz (b:=48) h;have:c<=57:=bz (a:=57) h';omega
theorem JR {c m:Nat} (h:48<=c/\c<=57) (hm:m<=100000):wr .i64 (Int.add (wr .i64<|Int.mul 10 (.ofNat m))<|wr .i64<|wr .u8<|Int.sub (.ofNat c) 48)= .ofNat (10*m+(c-48)):=by
 have e1:Int.sub (.ofNat c) 48= .ofNat (c-48):=by show(c:Int)-48=((c-48:Nat):Int);omega
 have d:Int.mul 10 (.ofNat m)= .ofNat (10*m):=rfl
 have u:wr .u8 (.ofNat (c-48))= .ofNat (c-48):=by
  show(bif Nat.ble (c-48) 255 then _ else _)=_;rw[show Nat.ble (c-48) 255=true by rw[nE_];omega];rfl
 have b:∀q:Nat,q<=9223372036854775807->wr .i64 (.ofNat q)= .ofNat q:=fun q hq=>by
  show(bif Nat.ble q 9223372036854775807 then _ else _)=_;rw[show Nat.ble q 9223372036854775807=true by rw[nE_];exact hq];rfl
 rw[e1,d,u,b _ oM,b _ oM];show wr .i64 (.ofNat (10*m+(c-48)))=_;exact b _ oM
theorem Ay {s:List Nat} (h:s.length=0∨4<s.length∨(1<s.length/\s[0]?=some 48)):oG s=none:=by unfold oG;rw[if_pos h]
theorem nI {s:List Nat} (h:¬(s.length=0∨4<s.length∨(1<s.length/\s[0]?=some 48))):oG s=rY s 0:=by unfold oG;rw[if_neg h]
def Pe (o:Option Nat):Int:=.ofNat (o.getD 0)
theorem Ez:∀i,i<=4->10 ^ i<=10000:=by decide
theorem E5 {G:Cx} (X:Plain G) {K:KP} (s:List Nat) {O:N} {L:Own} (ar:D O K L):a8 Tryz.prog G 253 [.str s] O fun v O'=>v= .tuple [.int .i64<|Pe<|oG s,.bool (oG s).isSome]/\D O' K L:=by
 refine QO X Tryz.func253 Z<|Pz 10 Z<|Y Z (mD Z Z Z U Z) Z<|vQ 1 Z<|ky Z (an Z) (fun S=>?_) (fun S=>?_)
 ·refine PH 25 Z ?_;exact cR Z Z Z ⟨by rw[Ay (.inl (by have:=sx S;rw[<-bN];exact iJ_ this))];rfl,ar⟩
 refine vQ 1 Z<|Y Z (mD Z Z Z U Z) Z<|QV 2 Z<|ky Z (an Z) (fun C=>?_) (fun C=>?_)
 ·refine PH 20 Z ?_;exact cR Z Z Z ⟨by rw[Ay (.inr (.inl (by rw[<-bN];exact bk (a:=4) C)))];rfl,ar⟩
 refine vQ 1 Z<|Y Z (mD Z Z Z U Z) Z<|vQ 1 Z<|ky Z (an Z) (fun E=>?_) (fun E=>?_)
 ·refine vQ 1 Z ?_;obtain⟨aa,A⟩:=cT (show 0<s.length from by have:=bk (a:=1) E;rw[bN] at this;omega);refine Y Z (kG U Z Z A) Z<|Qi 5 Z<|aF Z (fun F=>?_) (fun F=>?_)
  ·refine Qh 8 Z ?_;exact cR Z Z Z ⟨by rw[Ay (.inr (.inr ⟨by rw[<-bN];exact bk (a:=1) E,by rw[A];exact congrArg some<|iJ_<|eqv F⟩))];rfl,ar⟩
  refine PB 4 Z ?_;have hl4:dn s<=4:=bz (a:=4) C
  have z:¬(s.length=0∨4<s.length∨(1<s.length/\s[0]?=some 48)):=by
   have hl4:=hl4;rw[bN] at hl4;have h9z:s.length≠0:=fun e=>by rw[bN,e] at S;cases S
   rintro (e | e | ⟨_,e⟩)
   ·exact h9z e
   ·omega
   rw[A] at e;cases e;cases F
  refine O4 7 Z<|Y Z (mD Z Z Z U Z) Z<|PD 4 Z ?_;obtain⟨LL1,ar,hLL1⟩:=ar.named;refine bh (rg 2 4++rg 26 22) (fun j t O=>∃(i m:Nat),j+i=dn s/\rY s 0=rY (s.drop i) m/\m<10 ^ i/\i<=4/\t.get 4=some (.int .i64 (.ofNat m))/\t.get 26=some (.int .i64 (.ofNat i))/\D O K LL1) (dn s) ⟨0,0,Z,Z,Nat.one_pos,Nat.zero_le _,Z,Z,ar⟩ ?_;clear ar;intro T t O aq W;obtain⟨i,m,hj,he,hm,M,Q,B,ar⟩:=W;subst hLL1;obtain⟨oo,rfl⟩:=aq.q2 Q B Z;refine Qf 6 Z<|aF Z (fun d=>?_) (fun d=>?_)
  ·refine Oi 11 Z<|Qg 4 Z ?_;obtain⟨R,b⟩:=cT (show i<s.length from by have:=bk d;rwa[bN] at this);refine Y Z (kG U Z Z b) Z<|vQ 1 Z<|ky Z (an Z) (fun u=>?_) (fun u=>?_)
   ·refine Qk 15 Z<|ay<|aJ<|ay<|bD<|aJ<|ay (?_);exact cR Z Z Z ⟨by rw[nI z,he,sI b<|JQ u];rfl,ar⟩
   refine QV 2 Z<|Y Z (kG U Z Z b) Z<|Qi 4 Z<|aF Z (fun w=>?_) (fun w=>?_)
   ·refine QT 7 Z<|ay<|aJ<|ay<|bD<|aJ<|ay (?_);exact cR Z Z Z ⟨by rw[nI z,he,sI b<|JP w];rfl,ar⟩
   refine aH<|ad<|ai Z<|QV 4 Z<|Y Z (kG U Z Z b) Z<|vQ 1 Z ?_;refine Y Z (gY (j:=.u8) (k:=.i64) U U U Z) Z ?_;refine QU 3 Z (aG (QR 4 Z (aL ⟨T-1,by have:=bk d;omega,oF,i+1,10*m+(R-48),by have:=bk d;omega,he.trans<|wh b<|qK u w,by have:=qK u w;rw[Nat.pow_succ];omega,by have:=bk d;have:=hl4;omega,cI<|JR (qK u w) (by have:=Ez i M;omega),cI<|aY oM,ar⟩)))
  refine PC 3 Z<|aS<|QT 8 Z ?_;exact cR Z Z Z ⟨by rw[nI z,he,wg (by have:=bz d;rwa[bN] at this)];rfl,ar⟩
 refine O5 12 Z ?_;have hl4:dn s<=4:=bz (a:=4) C
 have z:¬(s.length=0∨4<s.length∨(1<s.length/\s[0]?=some 48)):=by
  have hl4:=hl4;rw[bN] at hl4;have h9z:s.length≠0:=fun e=>by rw[bN,e] at S;cases S
  have h18z:¬(1<s.length):=by have:=bz (a:=1) E;rw[bN] at this;omega
  omega
 refine O4 7 Z<|Y Z (mD Z Z Z U Z) Z<|PD 4 Z ?_;obtain⟨LL2,ar,hLL2⟩:=ar.named;refine bh (rg 2 4++rg 26 22) (fun j t O=>∃(i m:Nat),j+i=dn s/\rY s 0=rY (s.drop i) m/\m<10 ^ i/\i<=4/\t.get 4=some (.int .i64 (.ofNat m))/\t.get 26=some (.int .i64 (.ofNat i))/\D O K LL2) (dn s) ⟨0,0,Z,Z,Nat.one_pos,Nat.zero_le _,Z,Z,ar⟩ ?_;clear ar;intro T t O aq W;obtain⟨i,m,hj,he,hm,M,Q,B,ar⟩:=W;subst hLL2;obtain⟨oo,rfl⟩:=aq.q2 Q B Z;refine Qf 6 Z<|aF Z (fun d=>?_) (fun d=>?_)
 ·refine Oi 11 Z<|Qg 4 Z ?_;obtain⟨R,b⟩:=cT (show i<s.length from by have:=bk d;rwa[bN] at this);refine Y Z (kG U Z Z b) Z<|vQ 1 Z<|ky Z (an Z) (fun u=>?_) (fun u=>?_)
  ·refine Qk 15 Z<|ay<|aJ<|ay<|bD<|aJ<|ay (?_);exact cR Z Z Z ⟨by rw[nI z,he,sI b<|JQ u];rfl,ar⟩
  refine QV 2 Z<|Y Z (kG U Z Z b) Z<|Qi 4 Z<|aF Z (fun w=>?_) (fun w=>?_)
  ·refine QT 7 Z<|ay<|aJ<|ay<|bD<|aJ<|ay (?_);exact cR Z Z Z ⟨by rw[nI z,he,sI b<|JP w];rfl,ar⟩
  refine aH<|ad<|ai Z<|QV 4 Z<|Y Z (kG U Z Z b) Z<|vQ 1 Z ?_;refine Y Z (gY (j:=.u8) (k:=.i64) U U U Z) Z ?_;refine QU 3 Z (aG (QR 4 Z (aL ⟨T-1,by have:=bk d;omega,oF,i+1,10*m+(R-48),by have:=bk d;omega,he.trans<|wh b<|qK u w,by have:=qK u w;rw[Nat.pow_succ];omega,by have:=bk d;have:=hl4;omega,cI<|JR (qK u w) (by have:=Ez i M;omega),cI<|aY oM,ar⟩)))
 refine PC 3 Z<|aS<|QT 8 Z ?_;exact cR Z Z Z ⟨by rw[nI z,he,wg (by have:=bz d;rwa[bN] at this)];rfl,ar⟩
end Go.Ev
namespace Go.Ev
variable [Env]
def Nq:List Int->List Int->Int
 | x::l,y::m=>bif H (MU x y) 0 then Nq l m else MU x y
 | _,_=>0
def jR (A B:List Int) (c:Int):Prop:=∀l m,Nq (A++l) (B++m)=bif H c 0 then Nq l m else c
theorem jR.nil:jR [] [] 0:=fun _ _=>Z
theorem jR.one (x y:Int):jR [x] [y] (MU x y):=fun _ _=>Z
theorem jR.app {A B A' B':List Int} {c c':Int} (h:jR A B c) (h':c=0->jR A' B' c'):jR (A++A') (B++B') (bif H c 0 then c' else c):=fun l m=>by
 rw[lQ_,lQ_,h];simp only[OP]
 by_cases b:c=0
 ·simp only[b,if_true];rw[h' b];simp only[OP]
 omega
theorem jR.rows {α:Type} {enc:α->List Int} {c:α->α->Int}:∀{ls ms:List α},ls.length=ms.length->(∀(i:Nat) (x y:α),ls[i]?=some x->ms[i]?=some y->jR (enc x) (enc y) (c x y))->jR (ls.flatMap enc) (ms.flatMap enc) (Oz c ls ms)
 | [],[],_,_=>jR.nil
 | [],_::_,h,_=>by cases h
 | _::_,[],h,_=>by cases h
 | x::ls,y::ms,h,b=>by
  rw[List.flatMap_cons,List.flatMap_cons];exact(b 0 x y Z Z).app fun _=>jR.rows (by simpa using h) fun i x y h1 d=>b (i+1) x y (by simpa using h1) (by simpa using d)
theorem ints_at {xs:List Int} {i:Nat} {x:Int} (h:xs[i]?=some x):(ints xs)[i]?=some (.int .i64 x):=by
 unfold ints;simp_all
theorem fq {K:KP} {xs:List Int} {vb e:Nat} (h:K vb (.row (ints xs) e false)) (hn:xs.length<=1000):bF K 1 ek xs (.slice vb 0 xs.length (.known xs.length)):=by
 refine .inr ⟨vb,0,_,_,e,false,Z,.inr ⟨_,Z,nR_ _⟩,h,?_,by omega,fun i x hx=>?_⟩
 ·unfold ints;simp_all
 rw[Nat.mul_one,nA_,bX<|ints_at hx];rfl
theorem map_take {α β:Type} {f:α->β} {l:List α} {i:Nat} {x:α} (h:l[i]?=some x):(l.take (i+1)).map f=(l.take i).map f++[f x]:=by
 rw[List.take_add_one,h,List.map_append];rfl
theorem ke {xs:List Int} {b e E:Nat} (hn:xs.length<=1000):dt 1 E ek xs (.slice b 0 xs.length (.known xs.length)) [(b,.row (ints xs) e false)]:=by
 refine .inr ⟨b,_,_,e,Z,Z,?_,fun i x hx=>?_,.inl Z,by omega⟩
 ·unfold ints;simp_all
 rw[Nat.mul_one,bX<|ints_at hx];rfl
structure Q6 (g:XG):Prop where
 t:g.threads.length<=4
 r:∀l∈g.threads,l.length<=14
 f:g.from_.length<=4
 fr:∀l∈g.from_,l.length<=14
 o:g.order.length<=6
 OW:∀l∈g.order,l.length<=56
 i:g.init.length<=6
abbrev gI (n:Nat):V:=.int .i64 (.ofNat n)
abbrev gS (n:Nat):V:=.int .u8 (.ofNat n)
section
variable {O:N} {K:KP} {A M L:Own} {x:Nat×cN}
theorem D.front (h:D O K (A++(M++L))):D O K (M++(A++L)):=h.perm (List.perm_append_comm_assoc A M L)
theorem D.DX (h:D O K (x::(A++(M++L)))):D O K (x::(M++(A++L))):=h.perm ((List.perm_append_comm_assoc A M L).cons x)
theorem D.behind (h:D O K (x::(M++L))):D O K (M++x::L):=h.perm List.perm_middle.symm
theorem D.ahead (h:D O K (M++x::L)):D O K (x::(M++L)):=h.perm List.perm_middle
end
theorem ns.Pj {α:Type} {m E:Nat} {R:α->List V->Prop} {l:List α} {u:V} {M:Own} (h:ns m E R l u M) {k:Nat} (hk:k<=l.length):
  ∃u',ns m E R (l.take k) u' M/\∀{P:Program} {ev:Operand->Option V} {t:TypeId} {x hi:Operand} {kk:IntKind},P.underlying t=some (.slice E)->(P.info? E).map (·.size)=some m->ev x=some u->ev hi=some (.int kk (.ofNat k))->fQ P ev t x none (some hi) none=some u':=by
 rcases h with ⟨rfl,rfl,rfl⟩ | ⟨b,c,cells,e,rfl,rfl,h3,h4,h5,h6⟩
 ·refine⟨.av,.inl ⟨List.take_nil,Z,Z⟩,fun {P ev t x hi kk} hu hj hx hh=>?_⟩;obtain⟨j,d,rfl⟩:=oM_.1 hj;obtain rfl:k=0:=by simpa using hk
  have:dh ev 0 0 none (some hi)=some (0,0):=om hh (nR_ _);simp only[fQ,hu,hx,d,this]
 have hl:(l.take k).length=k:=by simp_all
 have w:∀(i:Nat) (x:α),(l.take k)[i]?=some x->R x ((cells.drop (i*m)).take m):=fun i x hi=>by
  grind
 have hle:k*m<=cells.length:=Nat.le_trans (nM_ _ hk) h3;rcases h5 with ⟨n,rfl,h7,z⟩ | ⟨rfl,rfl⟩
 ·refine⟨.slice b 0 k (.known n),.inr ⟨b,.known n,cells,e,by rw[hl],Z,by rw[hl];exact hle,w,.inl ⟨n,Z,by rw[hl];omega,z⟩,by rw[hl];omega⟩,fun {P ev t x hi kk} hu hj hx hh=>?_⟩;obtain⟨j,d,rfl⟩:=oM_.1 hj;have:dh ev l.length n none (some hi)=some (0,k):=om hh oM;simp only[fQ,hu,hx,cutAt,this,cut,d]
  simp_all
 refine⟨.slice b 0 k (.upto m),.inr ⟨b,.upto m,cells,e,by rw[hl],Z,by rw[hl];exact hle,w,.inr ⟨Z,Z⟩,by rw[hl];omega⟩,fun {P ev t x hi kk} hu hj hx hh=>?_⟩;obtain⟨j,d,rfl⟩:=oM_.1 hj;have:dh ev l.length l.length none (some hi)=some (0,k):=om hh hk;simp only[fQ,hu,hx,this,d,show Nat.beq j.size j.size=true from Nat.beq_refl _,cond_true,Nat.zero_mul,Nat.sub_zero,Nat.add_zero]
theorem ns.bL {α:Type} {m E:Nat} {R:α->List V->Prop} {l:List α} {u:V} {M:Own} (h:ns m E R l u M):l.length<=1048576:=by
 rcases h with ⟨rfl,_⟩ | ⟨_,_,_,_,_,_,_,_,_,h⟩
 ·exact Nat.zero_le _
 exact h
theorem Jm {l:List Nat} {i n:Nat} (h:l[i]?=some n):(l.map Int.ofNat)[i]?=some (.ofNat n):=by simp_all
theorem jy (l:List Nat):(l.map Int.ofNat).length=l.length:=lM_ ..
theorem Lt {l:List Nat} {a:Nat} (h:l.getLast?=some a):l[l.length-1]?=some a:=by grind
theorem HA (l:List Nat):(l.map Int.ofNat).take (l.length-1)=l.dropLast.map Int.ofNat:=by rw[List.dropLast_eq_take,List.map_take]
theorem Cj (x:XI) (a:Nat):(ft x a).length<=2:=by
 grind [ft]
where
 cond_ind2 {a b:List Int} (c:Bool) (h1:a.length<=2) (h0:b.length<=2):(bif c then a else b).length<=2:=by grind
theorem tW {c:XC} {a:Nat} {x:XI} (h:c.ins[a]?=some x):(dw c a).length=(ft x a).length:=by unfold dw;rw[h];simp
theorem Jc {c:XC} {a g:Nat} {x:XI} {to:Int} (h:c.ins[a]?=some x) (ht:(ft x a)[g]?=some to):(dw c a)[g]?=some to.toNat:=by
 grind [dw]
theorem Jd {c:XC} {a g:Nat} {x:XI} (h:c.ins[a]?=some x) (b:(ft x a).length<=g):(dw c a)[g]?=none:=by
 rw[List.getElem?_eq_none_iff,tW h];exact b
theorem tV {k:Nat} {c:XC} (u:eS k c) {a g:Nat} {x:XI} {to:Int} (h:c.ins[a]?=some x) (w:(ft x a)[g]?=some to):∃t:Nat,to= .ofNat t/\t<c.ins.length/\(dw c a)[g]?=some t:=by
 have hlt:=(gA.1 h).1;have hN:=Jc h w;have hm:=sY u a hlt _ (gB_ hN);refine⟨to.toNat,?_,hm,hN⟩;have hx:=u.right x (gB_ h);obtain⟨n,sh,z,n1,d,b,B⟩:=iV hx;have hto:=(ki B).to;have hmem:=gB_ w;unfold ft at hmem;rw[z] at hmem;have tole:sh.to=true->0<=x.to/\x.to<(c.ins.length:Int):=fun e=>by rw[e] at hto;exact m5 hto
 have nn:∀y:Int,0<=y->y= .ofNat y.toNat:=fun y hy=>by grind
 match n,n1,d with
 | 1,_,_ | 2,_,_ | 3,_,_ | 4,_,_ | 5,_,_ | 6,_,_ | 7,_,_ | 8,_,_ | 9,_,_=>
  have e:to= .ofNat (a+1):=List.mem_singleton.1 (show to∈[Int.ofNat (a+1)] from hmem);rw[e];rfl
 | 10,_,_=>
  have e:to=x.to:=List.mem_singleton.1 (show to∈[x.to] from hmem);have:=tole (by cases b;rfl)
  grind
 | 11,_,_=>
  have e:to= .ofNat (a+1)∨to=x.to:=by grind
  have:=tole (by cases b;rfl)
  grind
 | 12,_,_ | 13,_,_=>exact absurd (show to∈([]:List Int) from hmem) (by simp)
theorem C0 {c:XC}:total (dw c) c.ins.length<=2*c.ins.length:=by
 have h:∀(l:List Nat),(l.map fun i=>(dw c i).length).sum<=2*l.length:=by
  intro l;induction l with
  | nil=>simp
  | cons i l ih=>
   grind [dw,Cj]
 have:=h (List.range c.ins.length);rwa[List.length_range] at this
theorem KZ {nx:Nat->List Nat} {f:Nat} {s:DS} (h:s.path.length=0):Be nx (f+1) s=some s.out:=by
 unfold Be
 simp_all
theorem we {nx:Nat->List Nat} {f a:Nat} {s s':DS} (h:s.path.getLast?=some a) (hd:l7 nx s a=some s'):Be nx (f+1) s=Be nx f s':=by
 conv=>lhs;unfold Be
 simp_all
theorem Io {nx:Nat->List Nat} {f a:Nat} {s:DS} (h:s.path.getLast?=some a) (hd:l7 nx s a=none):Be nx (f+1) s=none:=by
 conv=>lhs;unfold Be
 simp_all
theorem GQ {nx:Nat->List Nat} {s:DS} {a g:Nat} (hg:s.gone[a]?=some g) (hn:(nx a)[g]?=none):l7 nx s a=some {s with st:=s.st.set a 2,out:=s.out++[a],path:=s.path.dropLast}:=by
 unfold l7;simp_all
theorem DJ {nx:Nat->List Nat} {s:DS} {a g to:Nat} (hg:s.gone[a]?=some g) (hn:(nx a)[g]?=some to) (hv:s.st[to]?=some 2):l7 nx s a=some {s with gone:=s.gone.set a (g+1)}:=by
 grind [l7]
theorem DH {nx:Nat->List Nat} {s:DS} {a g to:Nat} (hg:s.gone[a]?=some g) (hn:(nx a)[g]?=some to) (hv:s.st[to]?=some 1):l7 nx s a=none:=by
 grind [l7]
theorem DI {nx:Nat->List Nat} {s:DS} {a g to v:Nat} (hg:s.gone[a]?=some g) (hn:(nx a)[g]?=some to) (hv:s.st[to]?=some v) (h2:v≠2) (h1:v≠1):l7 nx s a=some {s with gone:=s.gone.set a (g+1),st:=s.st.set to 1,path:=s.path++[to]}:=by
 unfold l7;simp_all
theorem DM {a b:Nat} (h:H (.ofNat a) (.ofNat b)=false):a≠b:=fun e=>by rw[e,eh] at h;simp at h
theorem Mc {P:Program} {G:Cx} {ev:Operand->Option V} {O:N} {s d:TypeId} {e:Nat} {x:Operand} {l:List Nat} (hk:kindOf P (.convert s d x)= .jO) (b:P.underlying s=some .string) (u:P.underlying d=some (.slice e)) (he:P.underlying e=some (.int .u8)) (w:Nat.beq (P.cellsOf e) 1=true) (hx:ev x=some (.str l)):
  dW P G ev O (.convert s d x)= .val (.slice O.next 0 (dn l) (.upto 1)) (O.alloc (.row (l.map gS) e true)):=by
 refine kF hk ?_;have hm:ya (fun c=>V.int .u8 (Int.ofNat c)) l=l.map gS:=lG _ _;simp only[gf,hx,lX,b,u,he,w,cond_true,hm]
theorem Ip {s:List Nat} {i m c n:Nat} (h:rY (s.drop i) m=some n) (hc:s[i]?=some c):(48<=c/\c<=57)/\rY (s.drop (i+1)) (10*m+(c-48))=some n:=by
 grind [wh,sI]
theorem JN {s:List Nat} {n:Nat} (h:oG s=some n):0<s.length/\s.length<=4/\rY s 0=some n:=by
 grind [oG]
theorem MZ {c m:Nat} (h:48<=c/\c<=57) (hm:m<=100000):wr .i64 (Int.add (wr .i64<|Int.mul (.ofNat m) 10)<|wr .i64<|wr .u8<|Int.sub (.ofNat c) 48)= .ofNat (10*m+(c-48)):=by
 have e1:Int.sub (.ofNat c) 48= .ofNat (c-48):=by grind
 have d:Int.mul (.ofNat m) 10= .ofNat (10*m):=by grind
 have u:wr .u8 (.ofNat (c-48))= .ofNat (c-48):=by
  show(bif Nat.ble (c-48) 255 then _ else _)=_
  grind [nE_]
 have b:∀q:Nat,q<=9223372036854775807->wr .i64 (.ofNat q)= .ofNat q:=fun q hq=>by
  show(bif Nat.ble q 9223372036854775807 then _ else _)=_
  grind [nE_]
 rw[e1,d,u,b _ oM,b _ oM];show wr .i64 (.ofNat (10*m+(c-48)))=_;exact b _ oM
theorem MY {c:Nat} (h:48<=c/\c<=57):cq 9 (wr .u8<|Int.sub (.ofNat c) 48)=false:=by
 have e1:Int.sub (.ofNat c) 48= .ofNat (c-48):=by grind
 have w1:wr .u8 (.ofNat (c-48))= .ofNat (c-48):=by
  show(bif Nat.ble (c-48) 255 then _ else _)=_
  grind [nE_]
 grind [eu]
def mQ {α:Type} (f:α->Int) (l:List α) (i:Nat):List Int:=(l.take i).map f++List.replicate (l.length-i) 0
theorem wv {α:Type} (f:α->Int) (l:List α):mQ f l 0=List.replicate l.length 0:=by unfold mQ;simp
theorem yK {α:Type} {f:α->Int} {l:List α} {i:Nat} (h:l.length<=i):mQ f l i=l.map f:=by unfold mQ;rw[tL_ h,show l.length-i=0 by omega];simp
theorem qx {α:Type} {f:α->Int} {l:List α} {i:Nat} (h:i<=l.length):(mQ f l i).length=l.length:=by grind [mQ]
theorem yL {α:Type} {f:α->Int} {l:List α} {i:Nat} {x:α} (h:l[i]?=some x):(mQ f l i).set i (f x)=mQ f l (i+1):=by
 have hlt:=(gA.1 h).1;unfold mQ;have b:((l.take i).map f).length=i:=by grind
 rw[List.set_append_right _ _ oM,b,Nat.sub_self,show l.length-i=(l.length-(i+1))+1 by omega,List.replicate_succ,List.set_cons_zero,List.take_add_one,h,List.map_append];simp
theorem D.Ml {O:N} {K:KP} {x y:Nat×cN} {L:Own} (h:D O K (x::y::L)):D O K (x::L):=(h.perm<|List.Perm.swap ..).pop
theorem jd.mono {K K':KP} (hk:KP.le K K'):∀{k:Nat} {x:XE} {vs:List V},jd K k x vs->jd K' k x vs
 | 0,x,_,h=>by cases x;exact h.elim
 | k+1,.mk _ _ _ _,_,⟨v,h1,b⟩=>⟨v,h1,b.mono hk fun _ _ h=>jd.mono hk h⟩
theorem iB.mono {K K':KP} (hk:KP.le K K') {k:Nat} {x:XI} {vs:List V} (h:iB K k x vs):iB K' k x vs:=let ⟨v,h1,b⟩:=h;⟨v,h1,b.mono hk fun _ _ h=>h.mono hk⟩
theorem lr.mono {K K':KP} (hk:KP.le K K') {k:Nat} {x:XC} {vs:List V} (h:lr K k x vs):lr K' k x vs:=let ⟨v,h1,b⟩:=h;⟨v,h1,b.mono hk fun _ _ h=>h.mono hk⟩
theorem rW {K K':KP} (hk:KP.le K K') {k:Nat} {l:List XI} {v:V} (h:bF K 6 (iB K k) l v):bF K' 6 (iB K' k) l v:=h.mono hk fun _ _ h=>h.mono hk
theorem jX {K K':KP} (hk:KP.le K K') {k:Nat} {l:List XE} {v:V} (h:bF K 4 (jd K k) l v):bF K' 4 (jd K' k) l v:=h.mono hk fun _ _ h=>h.mono hk
theorem lM {P:Program} {G:Cx} {f:Nat} {args:List V} {O:N} {K:KP} {M L:Own} {u:V} (h0:D O K (M++L)) (h:a8 P G f args O fun v O'=>v=u/\D O' (K.m7 M) L):a8 P G f args O fun v O'=>v=u/\D O' K (M++L):=
 h.mono fun _ _ ⟨a,b⟩=>⟨a,h0.Gi b⟩
theorem Bz (b o:Nat):eB (.ptr b o) (.ptr b o)=true:=by
 unfold eB;show(eB.beqP b b && Nat.beq o o)=true
 grind [eB.beqP,Nat.beq_refl]
abbrev HV (c:XC) (cv:V) (s:TS) (rb:Nat) (ev:V):List V:=[.int .i64 c.br,cv,.int .i64 (.ofNat s.at_),.slice rb 0 s.br.length (.known s.br.length),ev,.int .i64 (.ofNat s.asked),.int .i64 s.fin,.bool s.asks]
theorem sO {br nins:Int} {k n:Nat} {x:XI} (h:gW br nins k x=true) (d:x.kind= .ofNat n) (h1:n=1∨n=3∨n=4∨n=5∨n=6∨n=8∨n=9∨n=11):∃e,x.exprs[0]?=some e/\gm br k e=true:=by
 obtain⟨m,sh,hm,_,_,b,hr⟩:=iV h;have hr:=ki hr;have:m=n:=iJ_ (hm.symm.trans d);subst this
 have hl:0<x.exprs.length:=by
  rw[hr.exprs];rcases h1 with h1 | h1 | h1 | h1 | h1 | h1 | h1 | h1<;>subst h1<;>cases b<;>decide
 exact⟨x.exprs[0],gC hl,hr.all _<|List.getElem_mem hl⟩
theorem JO {br nins:Int} {k n:Nat} {x:XI} (h:gW br nins k x=true) (d:x.kind= .ofNat n) (h1:n=1∨n=2∨n=4∨n=5∨n=6):∃r:Nat,x.xq= .ofNat r/\(r:Int)<br:=by
 obtain⟨m,sh,hm,_,_,b,hr⟩:=iV h;have hr:=ki hr;have:m=n:=iJ_ (hm.symm.trans d);subst this
 have u:sh.xq=true:=by
  rcases h1 with h1 | h1 | h1 | h1 | h1<;>subst h1<;>cases b<;>rfl
 have:=hr.xq;rw[u] at this;obtain⟨w1,w2⟩:=m5 this;exact⟨x.xq.toNat,by grind,by omega⟩
theorem Mz {br:Int} {m k n:Nat} {x:XI} (h:gW br (.ofNat m) k x=true) (u:x.kind= .ofNat n) (h1:n=10∨n=11):∃r:Nat,x.to= .ofNat r/\r<m:=by
 obtain⟨q,sh,hm,_,_,b,hr⟩:=iV h;have hr:=ki hr;have:q=n:=iJ_ (hm.symm.trans u);subst this;have w:sh.to=true:=by rcases h1 with h1 | h1<;>subst h1<;>cases b<;>rfl
 have:=hr.to;rw[w] at this;obtain⟨w1,d⟩:=m5 this;have d:x.to<(m:Int):=d;exact⟨x.to.toNat,by grind,by omega⟩
theorem fh {k i:Nat} {br:List Int} {x:XI} {e:XE} (h:x.exprs[i]?=some e):js k br x i=nv br k e:=by unfold js;rw[h];rfl
theorem sN {k i:Nat} {br:List Int} {x:XI} (h:x.exprs.length<=i):js k br x i=0:=by unfold js;simp_all
section
variable {P:Program} {G:Cx} {O:N} {K:KP} {L:Own}
theorem HN {α:Type} {m e:Nat} {R:α->List V->Prop} {u:V} {ts:Array TypeId} {t:TypeId} (A:D O K L) (hx:bF K m R [] u) (b:∀x vs,R x vs->cE vs=true)
  (B:ts[0]?=some t) (hu:P.underlying t=some (.slice e)) (d:qW P e m=true) (C:dC P ts[1]?=true):fM P O ts .av u= .val .av O:=by
 obtain⟨news,E,s2,F,s4⟩:=nN A hx b;unfold qW at d;split at d
 ·rename_i j hj;simp only[bA_] at d;obtain⟨M,S,T,W⟩:=d;have hm:j.size=m:=nB M;subst hm;have w:((P.info? e).any fun j=>(j.zero.bind pP).any fun z=>(df z).any fun cs=>Nat.beq (dn cs) j.size)=true:=by rw[hj];exact W
  unfold fM;rw[B];dsimp only;rw[hu];dsimp only;rw[hj] at w⊢;dsimp only;rw[C,S,T];simp only[Bool.and_self,cond_true];rw[E];dsimp only;rw[F,show Nat.ble ([]:List α).length 1048576=true from Z,w]
  simp_all
 cases d
theorem y9 {α:Type} {m e:Nat} {R:α->List V->Prop} {l l2:List α} {u E:V} {M:Own} {ts:Array TypeId} {t:TypeId} (S:dt m e R l u M) (ar:D O K (M++L))
  (hx:bF K m R l2 E) (d:∀x vs,R x vs->cE vs=true) (F:l.length+l2.length<=1000000)
  (w:ts[0]?=some t) (hu:P.underlying t=some (.slice e)) (z:qW P e m=true) (A:dC P ts[1]?=true):
  ∃O' u' M',fM P O ts u E= .val u' O'/\dt m e R (l++l2) u' M'/\D O' K (M'++L):=by
 rcases S with ⟨rfl,rfl,rfl⟩ | ⟨b,c,cells,e',rfl,rfl,h3,h4,h5,h6⟩
 ·cases l2 with
  | nil=>exact⟨O,_,[],HN ar hx d w hu z A,.inl ⟨Z,Z,Z⟩,ar⟩
  | cons a l2=>
   obtain⟨news,B,k2,C⟩:=qU (P:=P) ar hx d (by simp at F⊢;omega) (by simp) w hu z A;exact⟨_,_,[(O.next,.row news e false)],B,.inr ⟨_,_,news,e,Z,Z,k2,C,.inr ⟨Z,Z⟩,by simp at F⊢;omega⟩,ar.alloc (.row news e false)⟩
 obtain⟨O',b',c',news,T,B,k2,C,W,X⟩:=xQ (P:=P) ar hx d oM h3 oM h5 w hu z A;exact⟨O',_,[(b',.row (cells++news) T false)],B,pT h3 h4 C W Z X oM,k2⟩
theorem y8 {α:Type} {m e:Nat} {R:α->List V->Prop} {l l2:List α} {u d:V} {M:Own} {bv ev:Nat} {cv:List V} {ts:Array TypeId} {t:TypeId} (w:dt m e R l u M) (ar:D O K ((bv,.row cv ev false)::(M++L)))
  (hx:bF (K.add bv (.row cv ev false)) m R l2 d) (b:∀x vs,R x vs->cE vs=true) (z:l.length+l2.length<=1000000)
  (A:ts[0]?=some t) (hu:P.underlying t=some (.slice e)) (B:qW P e m=true) (C:dC P ts[1]?=true):
  ∃O' u' M',fM P O ts u d= .val u' O'/\dt m e R (l++l2) u' M'/\D O' K (M'++L):=by
 obtain⟨O',u',M',h1,h3,h4⟩:=y9 w ar.Cb hx b z A hu B C;exact⟨O',u',M',h1,h3,h4.weaken<|KP.r9 _ _ _⟩
theorem Lh {α:Type} {m b e:Nat} {ro:Bool} {R:α->List V->Prop} {x:α} {vs:List V} (hm:vs.length=m) (hR:R x vs) (hk:K b (.row vs e ro)):bF K m R [x] (.slice b 0 1 (.known 1)):=by
 refine .inr ⟨b,0,.known 1,vs,e,ro,Z,.inr ⟨1,Z,nR_ _⟩,hk,by simp[hm],by simp,fun i y hy=>?_⟩;cases i with
 | zero=>
  grind
 | succ i=>simp at hy
theorem fV {α:Type} {m b e:Nat} {R:α->List V->Prop} {x:α} {vs:List V} (hm:vs.length=m) (d:R x vs):bF (K.add b (.row vs e false)) m R [x] (.slice b 0 1 (.known 1)):=Lh hm d (.inr ⟨Z,Z⟩)
end
section
variable {P:Program} {G:Cx} {n:Nat} {t:PT V} {O:N} {K:KP} {L:Own} {Q:Ex->PT V->N->Prop} {ops:Array Oper} {o:Oper} {l:List Oper} {lp:List (Nat×List Nat)} {ix:Nat} {rc:List Nat}
theorem Nu {α:Type} {m e:Nat} {R:α->List V->Prop} {la l2:List α} {u B:V} {M:Own} {ty:TypeId} {cl:Call} {so xo:Operand} {t':V->PT V} (E:dt m e R la u M) (F:D O K (M++L)) (hx:bF K m R l2 B) (b:∀x vs,R x vs->cE vs=true) (S:la.length+l2.length<=1000000)
  (hw:bH ops t o=some true) (T:o.op= .call cl) (w:cl.callee= .builtin .append) (d:cl.args.toList= [so,xo]) (W:cl.argTypes[0]?=some ty) (z:bp G t so=some u) (A:bp G t xo=some B) (hp:∀v,dP t n o.dst v=some (t' v))
  (h:∀(O':N) (u':V) (M':Own),dt m e R (la++l2) u' M'->D O' K (M'++L)->bK P G ops n l (t' u') O' Q) (hu:P.underlying ty=some (.slice e):=by kernel_rfl) (X:qW P e m=true:=by kernel_rfl) (C:dC P cl.argTypes[1]?=true:=by kernel_rfl):bK P G ops n (o::l) t O Q:=by
 obtain⟨O',u',M',k1,k2,k3⟩:=y9 (P:=P) E F hx b S W hu X C;refine Y hw ?_ (hp _)<|h O' u' M' k2 k3;rw[T];exact ec w d z A C k1
theorem kY {α:Type} {m e:Nat} {R:α->List V->Prop} {la l2:List α} {u B:V} {M:Own} {bv ev:Nat} {cv:List V} {ty:TypeId} {cl:Call} {so xo:Operand} {t':V->PT V} (E:dt m e R la u M) (F:D O K ((bv,.row cv ev false)::(M++L))) (hx:bF (K.add bv (.row cv ev false)) m R l2 B) (b:∀x vs,R x vs->cE vs=true) (S:la.length+l2.length<=1000000)
  (hw:bH ops t o=some true) (T:o.op= .call cl) (w:cl.callee= .builtin .append) (d:cl.args.toList= [so,xo]) (W:cl.argTypes[0]?=some ty) (z:bp G t so=some u) (A:bp G t xo=some B) (hp:∀v,dP t n o.dst v=some (t' v))
  (h:∀(O':N) (u':V) (M':Own),dt m e R (la++l2) u' M'->D O' K (M'++L)->bK P G ops n l (t' u') O' Q) (hu:P.underlying ty=some (.slice e):=by kernel_rfl) (X:qW P e m=true:=by kernel_rfl) (C:dC P cl.argTypes[1]?=true:=by kernel_rfl):bK P G ops n (o::l) t O Q:=by
 obtain⟨O',u',M',k1,k2,k3⟩:=y8 (P:=P) E F hx b S W hu X C;refine Y hw ?_ (hp _)<|h O' u' M' k2 k3;rw[T];exact ec w d z A C k1
theorem Jy {α:Type} {m e:Nat} {R:α->List V->Prop} {la l2:List α} {u C:V} {M:Own} {bv ev:Nat} {cv:List V} {ty:TypeId} {cl:Call} {so xo:Operand} {t':V->PT V} (F:dt m e R la u M) (S:D O K ((bv,.row cv ev false)::(M++L))) (hx:bF (K.add bv (.row cv ev false)) m R l2 C) (b:∀x vs,R x vs->cE vs=true) (T:la.length+l2.length<=1000000)
  (w:ops[ix]?=some o) (hw:bH ops t o=some true) (W:o.op= .call cl) (z:cl.callee= .builtin .append) (d:cl.args.toList= [so,xo]) (X:cl.argTypes[0]?=some ty) (A:bp G t so=some u) (B:bp G t xo=some C) (hp:∀v,dP t n o.dst v=some (t' v))
  (h:∀(O':N) (u':V) (M':Own),dt m e R (la++l2) u' M'->D O' K (M'++L)->du P G ops (t' u') O' rc=true/\cO P G ops n lp (t' u') O' Q) (hu:P.underlying ty=some (.slice e):=by kernel_rfl) (ha:qW P e m=true:=by kernel_rfl) (E:dC P cl.argTypes[1]?=true:=by kernel_rfl):cO P G ops n ((ix,rc)::lp) t O Q:=by
 obtain⟨O',u',M',k1,k2,k3⟩:=y8 (P:=P) F S hx b T X hu ha E;refine fU w hw ?_ (hp _)<|h O' u' M' k2 k3;rw[W];exact ec z d A B E k1
end
end Go.Ev
namespace Go.Ev
variable [Env]
open Go.Proofs
set_option maxRecDepth 4000
set_option maxHeartbeats 8000000
theorem qJ {G:Cx} (W:Plain G) {K:KP} {n:Nat} (hn:n<=64) {R:Rn} {v:V} (h:bF K 1 RU (bB n R) v) {O:N} {L:Own} (ar:D O K L):
  a8 Tryz.prog G 200 [.agg [.int .i64 (.ofNat n),v]] O fun u O'=>u= .int .i64 0/\D O' K L:=by
 have hlen:=cM n R;refine QO W Tryz.func200 Z<|Qg 2 Z<|kp ar Z (cG Z Z) (fun O b1 ar=>?_);refine O6 ar 9 [0,0] Z Z<|ky Z (an Z) (fun T=>?_) (fun T=>?_)
 ·exact Bool.noConfusion (show false=true from T)
 refine QY ar 4 [0,0] Z Z<|ky Z (an Z) (fun A=>?_) (fun A=>?_)
 ·exact absurd (bk (a:=64) (b:=n) A) oM
 refine QY ar 2 [1,0] Z Z<|Y Z (RC h Z Z Z (e:=194) Z) Z<|Qo ar 6 [0,0] Z Z<|aF Z (fun B=>?_) (fun B=>?_)
 ·exact absurd B (by rw[hlen,dL];decide)
 refine O1 9 Z ?_;obtain⟨LL1,ar,hLL1⟩:=ar.named;refine bh ([2,3,4]++rg 21 22) (fun j t O=>∃(i:Nat),j+i=n/\t.get 3=some (.int .i64 (.ofNat i))/\D O K LL1) (n) ⟨0,Z,Z,ar⟩ ?_;clear ar;intro X t O aq M;obtain⟨i,ac,Q,ar⟩:=M;subst hLL1;obtain⟨oo,rfl⟩:=aq.q1 Q Z;refine Qn ar 9 [0,0] Z Z<|aF Z (fun d=>?_) (fun d=>?_)
 ·refine Oj 6 Z<|Qo ar 5 [0,0] Z Z<|aM ?_;obtain⟨LL2,ar,hLL2⟩:=ar.named;refine bh ([2,4]++rg 29 14) (fun j t O=>∃(w:Nat),n<=w/\j+w=64/\t.get 4=some (.int .i64 (.ofNat w))/\D O K LL2) (64-n) ⟨n,nR_ _,by omega,Z,ar⟩ ?_;clear ar;intro j7 t O aq M;obtain⟨w,am,ao,S,ar⟩:=M;subst hLL2;obtain⟨oo,rfl⟩:=aq.q1 S Z;refine Qf 7 Z<|aF Z (fun z=>?_) (fun z=>?_)
  ·refine Oj 6 Z<|QY ar 3 [1,0] Z Z<|Rr (e:=194) (m:=1) h (eb<|bk d) Z Z Z Z (fun ap aa C ab E=>?_);obtain rfl:=E;refine Y Z (RE ar C Z Z) Z<|vQ 1 Z<|Y Z (iA (j:=w) oM U U U Z) Z<|Qi 5 Z<|aF Z (fun F=>?_) (fun F=>?_)
   ·exact absurd ((rG (x:=cS n<|R i) (j:=w) (by have:=bk (b:=64) z;omega)).symm.trans F) (by rw[dk,decide_eq_false oM];exact fun e=>Bool.noConfusion (show false=true from e))
   refine aH<|aG<|QR 5 Z ?_;have hlp:=bk (b:=64) z;refine aL ⟨j7-1,by omega,oF,w+1,by omega,by omega,cI<|aY oM,ar⟩
  refine PC 3 Z<|aS<|aG<|QR 5 Z ?_;have hlp:=bk d;refine aL ⟨X-1,by omega,oF,i+1,by omega,cI<|aY oM,ar⟩
 refine PC 3 Z<|aS<|QT 6 Z ?_;exact aB Z Z ⟨Z,ar.pop⟩
theorem xl {G:Cx} (A:Plain G) {K:KP} {n:Nat} (hn:n<=64) {O:N} {L:Own} (ar:D O K L):
  a8 Tryz.prog G 204 [.int .i64 (.ofNat n)] O fun u O'=>∃b,u= .agg [.int .i64 (.ofNat n),.slice b 0 n (.known n)]/\D O' K ((b,.row ((bB n fun _ _=>false).map gU) 194 false)::L):=by
 refine QO A Tryz.func204 Z<|Qg 2 Z<|kp ar Z (RD (cs:=[J,.av])) (fun O b1 ar=>?_);refine O4 7 Z<|ky Z (an Z) (fun h5=>?_) (fun h5=>?_)
 ·exact Bool.noConfusion (show false=true from h5)
 refine Qi 5 Z<|aF Z (fun d=>?_) (fun d=>?_)
 ·exact absurd (bk (a:=64) (b:=n) d) oM
 refine PB 6 Z<|fY ar Z (iy (e:=194) (w:=8) (z:=[gU 0]) U U U U Z Z oM oM) (fun _=>Z) (fun O B ar=>?_);rw[iL (f:=gU)] at ar;refine Y Z (Rw (places:=[(0,1),(1,1)]) (zero:=[J,.av]) (cs:=[_,_]) Z) Z<|eE ar Z (RG Z Z Z ar.g1 (m:=2) Z Z (cells':=[_,_]) Z) Z (fun O ar=>?_);refine Qk 3 Z ?_;rw[EH] at ar;exact eQ Z Z ar.g1 (m:=2) U Z ⟨B,Z,ar.sub (.cons_cons _ (.cons _ (.refl _)))⟩
end Go.Ev
namespace Go.Ev
variable [Env]
section
variable {P:Program} {G:Cx} {ev:Operand->Option V} {O:N}
theorem mC {t e n m:Nat} {parts:Array (Nat×Operand)} {zero cs:List V} (b:P.underlying t=some (.array n e)) (hm:(P.info? e).map (·.size)=some m) (d:(fw P t).bind df=some zero) (hf:jM (fun i=>some (i*m,m)) ev parts.toList zero=some cs):dW P G ev O (.build t parts)= .val (.agg cs) O:=by
 refine a9 Z ?_;obtain⟨j,hj,rfl⟩:=oM_.1 hm;simp only[dj,b,d,hj,hf,Option.map_some]
end
section
variable {P:Program} {G:Cx} {n i:Nat} {O:N} {Q:Ex->PT V->N->Prop} {ops:Array Oper} {t:PT V} {o:Oper} {K:KP}
theorem qG {l:List (Nat×List Nat)} {p:V} {vs:List V} {ty e nn m j:Nat} {kk:IntKind} {xo io:Operand} {t':V->PT V} (d:gi K p vs) (u:ops[i]?=some o) (hw:bH ops t o=some true) (z:o.op= .indexAddr ty xo io) (hx:bp G t xo=some p) (w:bp G t io=some (.int kk (.ofNat j))) (C:P.underlying ty=some (.array nn e)) (hj:(P.info? e).map (·.size)=some m) (E:j<nn) (hl:j*m<=vs.length) (hp:∀p,dP t n o.dst p=some (t' p))
  (h:∀p',gi K p' (vs.drop (j*m))->cO P G ops n l (t' p') O Q):cO P G ops n ((i,[])::l) t O Q:=by
 obtain⟨b,off,cells,e,ro,rfl,F,h3,h4⟩:=d;refine aj u hw ?_ (hp _)<|h _ ⟨b,off+j*m,cells,e,ro,Z,F,by rw[lD_];omega,?_⟩
 ·rw[z];exact fm C hj hx w E
 rw[lD_]
 conv=>rhs;rw[<-h4]
 rw[List.drop_take,List.drop_drop]
end
def RP (p:Nat×Nat) (vs:List V):Prop:=vs= [.int .i64 (.ofNat p.1),.int .i64 (.ofNat p.2)]
theorem RP.leaf:∀x vs,RP x vs->cE vs=true:=fun _ _ h=>by cases h;rfl
def Cl (l:List (Nat×Nat)):Rn:=fun a b=>l.any fun p=>p.1 == a && p.2 == b
theorem Ly {n k a b:Nat} {l:List (Nat×Nat)} (h:l[k]?=some (a,b)) (hb:b<n):(bB n<|Cl<|l.take k).set a (cS n (Cl (l.take k) a) ||| 2 ^ b)=bB n (Cl<|l.take (k+1)):=by
 rw[zf hb];refine cL fun x y _ _=>?_
 unfold Cl;rw[List.take_add_one,h];simp only[List.any_append,Option.toList,List.any_cons,List.any_nil,Bool.or_false];have d:∀u v:Nat,(u == v)=(v == u):=fun u v=>by rw[Bool.eq_iff_iff];simp only[beq_iff_eq];exact eq_comm
 rw[d x a,d y b]
def eJ (n:Nat) (R:Rn) (i q:Nat):List (Nat×Nat):=((List.range i).flatMap fun a=>((List.range n).filter<|R a).map fun b=>(a,b))++((List.range q).filter<|R i).map fun b=>(i,b)
def iH (n:Nat) (R:Rn):List (Nat×Nat):=(List.range n).flatMap fun a=>((List.range n).filter<|R a).map fun b=>(a,b)
theorem kh {n i q:Nat} {R:Rn} (h:R i q=true):eJ n R i q++[(i,q)]=eJ n R i (q+1):=by
 unfold eJ;rw[List.range_succ,List.filter_append,List.map_append,lQ_];simp[h]
theorem lP {n i q:Nat} {R:Rn} (h:R i q=false):eJ n R i q=eJ n R i (q+1):=by
 unfold eJ;rw[List.range_succ,List.filter_append,List.map_append];simp[h]
theorem kg {n i:Nat} {R:Rn}:eJ n R i n=eJ n R (i+1) 0:=by
 unfold eJ;rw[List.range_succ,List.flatMap_append];simp
theorem pU {n:Nat} {R:Rn}:eJ n R n 0=iH n R:=by unfold eJ iH;simp
theorem kf {n:Nat} {R:Rn}:∀{i q:Nat},(eJ n R i q).length<=i*n+q:=by
 intro i q;unfold eJ
 have h1:((List.range i).flatMap fun a=>((List.range n).filter<|R a).map fun b=>(a,b)).length<=i*n:=by
  induction i with
  | zero=>simp
  | succ i ih=>
   rw[List.range_succ,List.flatMap_append,lA_,Nat.succ_mul];have:=List.length_filter_le (R i) (List.range n);simp at this⊢;simp at ih;omega
 have h2:=List.length_filter_le (R i) (List.range q);rw[lA_,lM_];rw[List.length_range] at h2;omega
def pR (l:List Rn):Rn:=fun a b=>l.any fun R=>R a b
def Hj (S R:Rn) (i:Nat):Rn:=fun a b=>S a b || (decide (a<i) && R a b)
def zF (A B:Rn) (i:Nat):Rn:=fun a b=>decide (a<i) && (A a b && B a b)
def vm (A B:Rn):Rn:=fun a b=>A a b && B a b
def mN (n:Nat) (A B:Rn):Rn:=fun a c=>(List.range n).any fun b=>A a b && B b c
def iN (n:Nat) (A B:Rn) (i j:Nat):Rn:=fun a c=>(decide (a<i) && mN n A B a c) || (decide (a=i) && (List.range j).any fun b=>A a b && B b c)
def jc (R:Rn) (i j:Nat):Rn:=fun a b=>(decide (b<i) || (decide (b=i) && decide (a<j))) && R b a
def mX (R:Rn):Rn:=fun a b=>R b a
section
variable {n i j k:Nat} {S R A B:Rn} {l:List Rn}
theorem LF:(bB n<|Hj S R i).set i (cS n (Hj S R i i) ||| cS n (R i))=bB n (Hj S R (i+1)):=by
 rw[BA,qO];refine cL fun a b _ _=>?_
 unfold Hj
 by_cases e:a=i
 ·subst e;simp
 have h1:(a == i)=false:=by simp[e]
 have d:decide (a<i+1)=decide (a<i):=by simp;omega
 simp[h1,d]
theorem Jt:bB n (Hj S R 0)=bB n S:=cL fun a b _ _=>by unfold Hj;simp
theorem Js (h:l[k]?=some R):bB n (Hj (pR<|l.take k) R n)=bB n (pR<|l.take (k+1)):=by
 refine cL fun a b d _=>?_
 unfold Hj pR;rw[List.take_add_one,h];simp[List.any_append,d]
theorem LD:bB n (pR<|l.take 0)=bB n fun _ _=>false:=cL fun a b _ _=>by unfold pR;simp
theorem H4:(bB n<|zF A B i).set i (cS n (A i) &&& cS n (B i))=bB n (zF A B (i+1)):=by
 rw[GB,qO];refine cL fun a b _ _=>?_
 unfold zF
 by_cases e:a=i
 ·subst e;simp
 have h1:(a == i)=false:=by simp[e]
 have d:decide (a<i+1)=decide (a<i):=by simp;omega
 simp[h1,d]
theorem Gx:bB n (zF A B 0)=bB n fun _ _=>false:=cL fun a b _ _=>by unfold zF;simp
theorem Gw:bB n (zF A B n)=bB n (vm A B):=cL fun a b d _=>by unfold zF vm;simp[d]
theorem GP (h:A i j=true):(bB n<|iN n A B i j).set i (cS n (iN n A B i j i) ||| cS n (B j))=bB n (iN n A B i (j+1)):=by
 rw[BA,qO];refine cL fun a c _ _=>?_
 unfold iN
 by_cases e:a=i
 ·subst e;simp[List.range_succ,h]
 have h1:(a == i)=false:=by simp[e]
 simp[h1,e]
theorem Ii (h:A i j=false):bB n (iN n A B i j)=bB n (iN n A B i (j+1)):=by
 refine cL fun a c _ _=>?_
 unfold iN
 by_cases e:a=i
 ·subst e;simp[List.range_succ,h]
 simp[e]
theorem GO:bB n (iN n A B i n)=bB n (iN n A B (i+1) 0):=by
 refine cL fun a c _ _=>?_
 unfold iN mN
 by_cases e:a=i
 ·subst e;simp
 have b:decide (a<i+1)=decide (a<i):=by simp;omega
 simp[e,b]
theorem DA:bB n (iN n A B 0 0)=bB n fun _ _=>false:=cL fun a c _ _=>by unfold iN;simp
theorem Dz:bB n (iN n A B n 0)=bB n (mN n A B):=cL fun a c b _=>by unfold iN;simp[b]
theorem HE (hi:i<n) (h:R i j=true):(bB n<|jc R i j).set j (cS n (jc R i j j) ||| 2 ^ i)=bB n (jc R i (j+1)):=by
 rw[zf hi];refine cL fun a b _ _=>?_
 unfold jc
 by_cases e:a=j
 ·subst e
  by_cases f:b=i
  ·subst f;simp[h]
  have h1:(b == i)=false:=by simp[f]
  simp[h1,f]
 have h1:(a == j)=false:=by simp[e]
 have d:decide (a<j+1)=decide (a<j):=by simp;omega
 simp[h1,d]
theorem J7 (h:R i j=false):bB n (jc R i j)=bB n (jc R i (j+1)):=by
 refine cL fun a b _ _=>?_
 unfold jc
 by_cases e:a=j
 ·subst e
  by_cases f:b=i
  ·subst f;simp[h]
  simp[f]
 have d:decide (a<j+1)=decide (a<j):=by simp;omega
 simp[d]
theorem HD:bB n (jc R i n)=bB n (jc R (i+1) 0):=by
 refine cL fun a b d _=>?_
 unfold jc
 by_cases f:b=i
 ·subst f;simp[d]
 have u:decide (b<i+1)=decide (b<i):=by simp;omega
 simp[f,u]
theorem EX:bB n (jc R 0 0)=bB n fun _ _=>false:=cL fun a b _ _=>by unfold jc;simp
theorem EW:bB n (jc R n 0)=bB n (mX R):=cL fun a b _ hb=>by unfold jc mX;simp[hb]
theorem Mx:bB n (pR [S,mN n S S])=bB n (Hw n S):=cL fun a b _ _=>by unfold pR Hw mN;simp
theorem filter_lt {p q:Nat->Bool}:∀{l:List Nat},(∀x∈l,p x=true->q x=true)->(l.filter p).length<=(l.filter q).length/\((∃x∈l,p x=false/\q x=true)->(l.filter p).length<(l.filter q).length)
 | [],_=>⟨nR_ _,fun⟨x,hx,_⟩=>by cases hx⟩
 | y::l,h=>by
  obtain⟨h1,d⟩:=filter_lt (p:=p) (q:=q) (l:=l) fun x hx=>h x (mC_ _ hx)
  have h0:=h y (mS_ ..);cases hp:p y with
  | true=>
   have hq:=h0 hp;simp only[List.filter_cons,hp,hq,if_true,List.length_cons];refine⟨by omega,fun⟨x,hx,b,hb⟩=>?_⟩;rcases mQ_.1 hx with rfl | hx
   ·rw[hp] at b;cases b
   have:=d ⟨x,hx,b,hb⟩;omega
  | false=>
   cases hq:q y with
   | true=>
    simp only[List.filter_cons,hp,hq,if_true,List.length_cons,Bool.false_eq_true,if_false];exact⟨by omega,fun _=>by omega⟩
   | false=>
    simp only[List.filter_cons,hp,hq,Bool.false_eq_true,if_false];refine⟨h1,fun⟨x,hx,b,hb⟩=>?_⟩;rcases mQ_.1 hx with rfl | hx
    ·rw[hq] at hb;cases hb
    exact d ⟨x,hx,b,hb⟩
theorem J2 {f g:Nat->Nat}:∀{l:List Nat},(∀x∈l,f x<=g x)->(l.map f).sum<=(l.map g).sum/\((∃x∈l,f x<g x)->(l.map f).sum<(l.map g).sum)
 | [],_=>⟨nR_ _,fun⟨x,hx,_⟩=>by cases hx⟩
 | y::l,h=>by
  obtain⟨h1,b⟩:=J2 (f:=f) (g:=g) (l:=l) fun x hx=>h x (mC_ _ hx)
  have h0:=h y (mS_ ..);simp only[List.map_cons,List.sum_cons];refine⟨by omega,fun⟨x,hx,d⟩=>?_⟩;rcases mQ_.1 hx with rfl | hx
  ·omega
  have:=b ⟨x,hx,d⟩;omega
theorem KX (hle:∀a b,a<n->b<n->S a b=true->R a b=true) (u:bB n S≠bB n R):GN n S<GN n R:=by
 unfold GN;refine(J2 fun a d=>(filter_lt fun b hb=>hle a b (List.mem_range.1 d) (List.mem_range.1 hb)).1).2 ?_
 by_cases hh:∃a b,a<n/\b<n/\S a b=false/\R a b=true
 ·obtain⟨a,b,d,hb,h1,z⟩:=hh;exact⟨a,List.mem_range.2 d,(filter_lt fun b hb=>hle a b d (List.mem_range.1 hb)).2 ⟨b,List.mem_range.2 hb,h1,z⟩⟩
 refine absurd (cL fun a b d hb=>?_) u;cases w:S a b with
 | true=>exact(hle a b d hb w).symm
 | false=>
  cases C:R a b with
  | false=>rfl
  | true=>exact absurd ⟨a,b,d,hb,w,C⟩ hh
end
theorem qL {K:KP} {n m b e:Nat} {ro:Bool} {Rs:List Rn} {us:List V} (h:K b (.row (us.flatMap fun u=>[.int .i64 (.ofNat n),u]) e ro)) (hm:Rs.length=m) (hl:Rs.length=us.length) (hle:m<=1000000) (w:∀(i:Nat) (R:Rn),Rs[i]?=some R->∃u,us[i]?=some u/\bF K 1 RU (bB n R) u):bF K 2 (HZ K n) Rs (.slice b 0 m (.known m)):=by
 subst hm
 have hlen:∀us:List V,(us.flatMap fun u=>[V.int .i64 (.ofNat n),u]).length=us.length*2:=by
  intro us;induction us with
  | nil=>rfl
  | cons u us ih=>rw[List.flatMap_cons,lA_,ih,List.length_cons];simp;omega
 have d:∀(us:List V) (i:Nat) (u:V),us[i]?=some u->((us.flatMap fun u=>[V.int .i64 (.ofNat n),u]).drop (i*2)).take 2= [.int .i64 (.ofNat n),u]:=by
  intro us;induction us with
  | nil=>intro i u h;simp at h
  | cons v us ih=>
   intro i u h;cases i with
   | zero=>simp at h;subst h;rfl
   | succ i=>
    rw[List.getElem?_cons_succ] at h;rw[<-ih i u h,List.flatMap_cons,Nat.succ_mul];rfl
 refine .inr ⟨b,0,_,_,e,ro,Z,.inr ⟨_,Z,nR_ _⟩,h,by rw[hlen];omega,by omega,fun i R hx=>?_⟩;obtain⟨u,hu,z⟩:=w i R hx;rw[nA_];exact⟨u,d us i u hu,z⟩
theorem F5 {K:KP} {n b e:Nat} {ro:Bool} {R:Rn} {u:V} (h:K b (.row [.int .i64 (.ofNat n),u] e ro)) (d:bF K 1 RU (bB n R) u):bF K 2 (HZ K n) [R] (.slice b 0 1 (.known 1)):=
 qL (us:=[u]) h Z Z (by decide) fun i R' hi=>by
  match i,hi with
  | 0,hi=>cases hi;exact⟨_,Z,d⟩
theorem ta {K:KP} {n b e:Nat} {ro:Bool} {R S:Rn} {u v:V} (h:K b (.row [.int .i64 (.ofNat n),u,.int .i64 (.ofNat n),v] e ro)) (d:bF K 1 RU (bB n R) u) (w:bF K 1 RU (bB n S) v):bF K 2 (HZ K n) [R,S] (.slice b 0 2 (.known 2)):=
 qL (us:=[u,v]) h Z Z (by decide) fun i R' hi=>by
  match i,hi with
  | 0,hi=>cases hi;exact⟨_,Z,d⟩
  | 1,hi=>cases hi;exact⟨_,Z,w⟩
theorem Hq {K:KP} {n b e:Nat} {ro:Bool} {R S T:Rn} {u v w:V} (h:K b (.row [.int .i64 (.ofNat n),u,.int .i64 (.ofNat n),v,.int .i64 (.ofNat n),w] e ro)) (d:bF K 1 RU (bB n R) u) (z:bF K 1 RU (bB n S) v) (hT:bF K 1 RU (bB n T) w):bF K 2 (HZ K n) [R,S,T] (.slice b 0 3 (.known 3)):=
 qL (us:=[u,v,w]) h Z Z (by decide) fun i R' hi=>by
  match i,hi with
  | 0,hi=>cases hi;exact⟨_,Z,d⟩
  | 1,hi=>cases hi;exact⟨_,Z,z⟩
  | 2,hi=>cases hi;exact⟨_,Z,hT⟩
theorem JS {K:KP} {n b e:Nat} {ro:Bool} {R S T U0:Rn} {u v w x:V} (h:K b (.row [.int .i64 (.ofNat n),u,.int .i64 (.ofNat n),v,.int .i64 (.ofNat n),w,.int .i64 (.ofNat n),x] e ro)) (d:bF K 1 RU (bB n R) u) (z:bF K 1 RU (bB n S) v) (hT:bF K 1 RU (bB n T) w) (C:bF K 1 RU (bB n U0) x):bF K 2 (HZ K n) [R,S,T,U0] (.slice b 0 4 (.known 4)):=
 qL (us:=[u,v,w,x]) h Z Z (by decide) fun i R' hi=>by
  match i,hi with
  | 0,hi=>cases hi;exact⟨_,Z,d⟩
  | 1,hi=>cases hi;exact⟨_,Z,z⟩
  | 2,hi=>cases hi;exact⟨_,Z,hT⟩
  | 3,hi=>cases hi;exact⟨_,Z,C⟩
end Go.Ev
namespace Go.Ev
variable [Env]
open Go.Proofs
set_option maxRecDepth 4000
set_option maxHeartbeats 8000000
theorem As {G:Cx} (hG:Plain G) {K:KP} {n:Nat} (hn:n<=64) {l:List Rn} {v:V} (b:bF K 2 (HZ K n) l v) (hp:0<l.length) {O:N} {L:Own} (ar:D O K L):
  a8 Tryz.prog G 203 [v] O fun u O'=>u= .bool true/\D O' K L:=by
 obtain⟨x0,h0x⟩:=cT hp;refine QO hG Tryz.func203 Z<|Qf 11 Z<|aM ?_;obtain⟨LL1,ar,hLL1⟩:=ar.named;refine bh (rg 2 26) (fun j t O=>∃(i:Nat),j+i=l.length/\t.get 3=some (.int .i64 (.ofNat i))/\D O K LL1) (l.length) ⟨0,Z,Z,ar⟩ ?_;clear ar;intro j2 t O aq hI;obtain⟨i,a3,X,ar⟩:=hI;subst hLL1;obtain⟨oo,rfl⟩:=aq.q1 X Z;refine Pz 5 Z<|Y Z (RC b Z Z Z (e:=149) Z) Z<|Qi 3 Z<|aF Z (fun W=>?_) (fun W=>?_)
 ·refine Oi 5 Z<|aQ (l:=zp [0,1,2,3,4,5,6,7,8,9,10,11,12,13,14,15,16,17]) U U<|QW 2 Z ?_;obtain⟨a4,d,aa⟩:=dH W;refine Rt (e:=149) (m:=2) b d Z Z Z Z Z (fun a5 ab w ac z=>?_);have hr12':=z;obtain⟨ba,rfl,A⟩:=hr12';refine aj Z Z (RF ar w Z Z) Z<|dJ Z Z (Rx Z Z Z) (fun _=>Z) (qJ hG hn A ar) (fun O ar=>?_);refine⟨aX,?_⟩;refine wQ 1 Z<|hJ Z Z (an Z) (fun _=>Z) (fun B=>?_) (fun B=>?_)
  ·exact absurd B (by first | decide | (rw[dL];decide))
  refine QW 2 Z ?_;obtain⟨bb,C,am⟩:=dH W;refine Rt (e:=149) (m:=2) b C Z Z Z Z Z (fun be ao E ap F=>?_);have hr19':=F;obtain⟨bi,rfl,aE⟩:=hr19';refine dY E Z Z Z Z (k:=0) U (lb Z) (fun _=>Z) (fun bo M=>?_);refine aj Z Z (RE ar M Z Z) Z<|wQ 1 Z<|Rt (e:=149) (m:=2) b h0x Z Z Z Z Z (fun bq a0 Q a1 R=>?_);have hr23':=R;obtain⟨br,rfl,a2⟩:=hr23';refine dY Q Z Z Z Z (k:=0) U (lb Z) (fun _=>Z) (fun bs S=>?_);refine aj Z Z (RE ar S Z Z) Z<|Ql 4 Z<|aF Z (fun T=>?_) (fun T=>?_)
  ·exact absurd T (by first | decide | (rw[dL];decide))
  refine aH<|aG<|QR 5 Z ?_;have hlp:=bk W;refine aL ⟨j2-1,by omega,oF,i+1,by omega,cI<|aY (by have:=b.bL;omega),ar⟩
 refine PC 3 Z<|aS<|Qg 3 Z<|Y Z (RC b Z Z Z (e:=149) Z) Z<|Qk 5 Z ?_;exact aB Z Z ⟨cB (show Nat.ble 1 l.length=true by rw[nE_];exact hp),ar⟩
theorem EB {G:Cx} (hG:Plain G) {K:KP} {n:Nat} (X:n<=64) {l:List Rn} {v:V} (z:bF K 2 (HZ K n) l v) (hp:0<l.length) {O:N} {L:Own} (ar:D O K L):
  a8 Tryz.prog G 148 [v] O fun u O'=>∃b,u= .agg [.int .i64 (.ofNat n),.slice b 0 n (.known n)]/\D O' K ((b,.row ((bB n<|pR l).map gU) 194 false)::L):=by
 obtain⟨x0,h0x⟩:=cT hp;refine QO hG Tryz.func148 Z<|Qg 2 Z<|kp ar Z (RD (cs:=[J,.av])) (fun O b1 ar=>?_);refine O4 6 Z<|bc Z (Rx Z Z Z) (fun _=>Z) (As hG X z hp ar) (fun O ar=>?_);refine Y Z (dq Z) Z<|O5 8 Z<|Rr (e:=149) (m:=2) z h0x Z Z Z Z (fun a4 ao A ap B=>?_);have hr11':=B;obtain⟨a5,rfl,aE⟩:=hr11';refine bJ A Z Z Z (k:=0) U (lb Z) (fun _=>Z) (fun ba C=>?_);refine Y Z (RE ar C Z Z) Z<|bR Z (Rx Z Z Z) (fun _=>Z) (xl hG X ar) ?_;rintro _ O ⟨E,rfl,ar⟩;refine kp ar Z (RD (cs:=[J,.av])) (fun O b3 ar=>?_);refine bE ar Z (RG Z Z Z ar.g0 (m:=2) Z Z (cells':=[_,_]) Z) Z (fun O ar=>?_);refine O4 5 Z ?_;rw[<-LD (l:=l)] at ar;refine PD 4 Z (bh ([4,5]++rg 15 30) (fun j t O=>∃(k:Nat),j+k=l.length/\t.get 4=some (.int .i64 (.ofNat k))/\D O K ((b3,.row [.int .i64 (.ofNat n),.slice E 0 n (.known n)] 149 false)::(E,.row ((bB n<|pR<|l.take k).map gU) 194 false)::(b1,.row [J,.av] 149 false)::L)) (l.length) ⟨0,Z,Z,ar⟩ ?_);clear ar;intro j5 t O aq hI;obtain⟨k,bb,aa,ar⟩:=hI;obtain⟨oo,rfl⟩:=aq.q1 aa Z;refine Pz 5 Z<|Y Z (RC z Z Z Z (e:=149) Z) Z<|Qi 3 Z<|aF Z (fun d=>?_) (fun d=>?_)
 ·refine Oj 6 Z ?_;obtain⟨R,hR,be⟩:=dH d;rw[<-Jt (R:=R)] at ar;refine PD 4 Z (bh ([5]++rg 21 24) (fun j t O=>∃(i:Nat),j+i=n/\t.get 5=some (.int .i64 (.ofNat i))/\D O K ((b3,.row [.int .i64 (.ofNat n),.slice E 0 n (.known n)] 149 false)::(E,.row ((bB n<|Hj (pR<|l.take k) R i).map gU) 194 false)::(b1,.row [J,.av] 149 false)::L)) (n) ⟨0,Z,Z,ar⟩ ?_);clear ar;intro j8 t O aq hI;obtain⟨i,bi,ab,ar⟩:=hI;obtain⟨oo,rfl⟩:=aq.q1 ab Z;refine Qn ar 9 [0,0] Z Z<|aF Z (fun w=>?_) (fun w=>?_)
  ·refine O1 4 Z<|aQ (l:=zp [0,1,2,3,4,5,6,7,8,9,10,11,12,13,14,15,16,17,18]) U U ?_;have hin:=bk w;refine QZ ar 6 [1,0,1,0] Z Z<|aj Z Z (eI (e:=194) (m:=1) U U Z Z hin) Z<|aj Z Z (ax Z ar.g1 U<|hH (eb hin) (by first | omega | rfl)) Z<|QW 2 Z<|Rt (e:=149) (m:=2) z hR Z Z Z Z Z (fun bo a0 F a1 M=>?_);have hr37':=M;obtain⟨bq,rfl,Q⟩:=hr37';refine dY F Z Z Z Z (k:=1) U (lb Z) (fun _=>Z) (fun br S=>?_);refine aj Z Z (RE ar S Z Z) Z<|wQ 1 Z<|Rt (e:=194) (m:=1) Q (eb hin) Z Z Z Z Z (fun bs a2 T a3 W=>?_);obtain rfl:=W;refine aj Z Z (RE ar T Z Z) Z (aj Z Z (az (v:=.int .u64 (.ofNat<|cS n ((Hj (pR<|l.take k) R i) i) ||| cS n (R i))) Z Z<|J8 (gu X _)<|gu X _) Z<|aj Z Z (eI (e:=194) (m:=1) U U Z Z hin) Z ?_);refine ik ar (.there .here) Z Z (aK Z Z Z ar.g1 (m:=1) U Z (by rw[lM_];rw[cM];omega) Z (cells':=((bB n<|Hj (pR<|l.take k) R i).set i<|cS n ((Hj (pR<|l.take k) R i) i) ||| cS n (R i)).map (gU)) (eN (f:=gU) (v:=(cS n ((Hj (pR<|l.take k) R i) i) ||| cS n (R i))) (by rw[cM];exact hin) (by first | omega | rfl))) Z (fun O ar=>?_);refine⟨aX,?_⟩;rw[LF] at ar;refine aV<|aG<|QR 5 Z<|aL ⟨j8-1,by omega,oF,i+1,by omega,cI<|aY oM,ar⟩
  refine PC 3 Z<|aS<|aG<|QR 5 Z ?_;have hlp:=bk d;have ac:i=n:=by have:=bz w;omega
  subst ac;rw[Js hR] at ar;refine aL ⟨j5-1,by omega,oF,k+1,by omega,cI<|aY (by have:=z.bL;omega),ar⟩
 refine PC 3 Z<|aS<|Qg 2 Z<|Y Z (RB Z ar.g0 (n:=2) (vs:=[_,_]) Z) Z<|kZ ar Z (RG Z Z Z (ar.get 2 Z) (m:=2) Z Z (cells':=[_,_]) Z) Z (fun O ar=>?_);refine Qk 3 Z ?_;have am:l.take k=l:=tL_ (bz d);rw[am] at ar;exact eQ Z Z (ar.get 2 Z) (m:=2) U Z ⟨E,Z,ar.sub (.cons _ (.cons_cons _ (.cons _ (.refl _))))⟩
theorem M9 {a b:Nat} (h:H (.ofNat a) (.ofNat b)=true):a=b:=by
 rw[eh] at h;simpa using h
theorem H3 {n i:Nat} {A B:Rn} (b:∀q,q<i->(bB n A)[q]?=(bB n B)[q]?) (h:n<=i):bB n A=bB n B:=by
 refine List.ext_getElem? fun q=>?_
 by_cases hq:q<n
 ·exact b q oM
 rw[gN_ (by rw[cM];omega),gN_ (by rw[cM];omega)]
theorem NA {G:Cx} (W:Plain G) {K:KP} {n:Nat} (X:n<=64) {A:Rn} {va:V} (S:bF K 1 RU (bB n A) va) {B:Rn} {vb:V} (hb:bF K 1 RU (bB n B) vb) {O:N} {L:Own} (ar:D O K L):
  a8 Tryz.prog G 202 [.agg [.int .i64 (.ofNat n),va],.agg [.int .i64 (.ofNat n),vb]] O fun u O'=>(∃q,u= .bool q/\(q=true->bB n A=bB n B)/\(q=false->bB n A≠bB n B))/\D O' K L:=by
 have hlA:=cM n A;have hlB:=cM n B;refine QO W Tryz.func202 Z<|Qg 2 Z<|kp ar Z (cG Z Z) (fun O b1 ar=>?_);refine kp ar Z (cG Z Z) (fun O b2 ar=>?_);refine O6 ar 11 [0,1,0,0] Z Z<|ky Z (an Z) (fun C=>?_) (fun C=>?_)
 ·exact absurd C (by rw[dL];decide)
 refine QY ar 2 [1,1] Z Z<|Y Z (RC S Z Z Z (e:=194) Z) Z<|QY ar 2 [1,0] Z Z<|Y Z (RC hb Z Z Z (e:=194) Z) Z<|Qi 4 Z<|aF Z (fun E=>?_) (fun E=>?_)
 ·exact absurd E (by rw[hlA,hlB,dL];decide)
 refine O1 9 Z ?_;obtain⟨LL1,ar,hLL1⟩:=ar.named;refine bh ([4,5]++rg 20 18) (fun j t O=>∃(i:Nat),j+i=n/\(∀q,q<i->(bB n A)[q]?=(bB n B)[q]?)/\t.get 5=some (.int .i64 (.ofNat i))/\D O K LL1) (n) ⟨0,Z,fun q hq=>absurd hq (nZ_ _),Z,ar⟩ ?_;clear ar;intro j4 t O aq hI;obtain⟨i,ao,w,T,ar⟩:=hI;subst hLL1;obtain⟨oo,rfl⟩:=aq.q1 T Z;refine PJ ar 6 [1,1] Z Z<|Y Z (RC S Z Z Z (e:=194) Z) Z<|Qi 3 Z<|aF Z (fun d=>?_) (fun d=>?_)
 ·refine Oi 5 Z<|aQ (l:=zp [0,1,2,3,4,5,6,7,8,9,10]) U U ?_;have b:i<n:=by have:=bk d;omega
  refine QZ ar 3 [1,1] Z Z<|Rt (e:=194) (m:=1) S (eb b) Z Z Z Z Z (fun ap aa F ab M=>?_);obtain rfl:=M;refine aj Z Z (RE ar F Z Z) Z<|QZ ar 3 [1,0] Z Z<|Rt (e:=194) (m:=1) hb (eb b) Z Z Z Z Z (fun aE ac Q am R=>?_);obtain rfl:=R;refine aj Z Z (RE ar Q Z Z) Z<|Ql 3 Z<|aF Z (fun z=>?_) (fun z=>?_)
  ·refine QT 6 Z<|aJ<|ay<|bD<|aJ<|ay (?_);exact aB Z Z ⟨⟨_,Z,(fun e=>by cases e),fun _ e=>absurd (cC z) (by rw[show cS n (A i)=cS n (B i) from Option.some.inj ((eb b).symm.trans (by rw[e];exact eb b)),dL];decide)⟩,ar.pop.pop⟩
  refine aH<|aG<|QR 5 Z ?_;have hlp:=bk d;refine aL ⟨j4-1,by omega,oF,i+1,by omega,fun q hq=>by rcases Nat.lt_or_ge q i with h1 | h1;(exact w q h1);(obtain rfl:q=i:=by omega);rw[eb b,eb b];exact congrArg some<|M9<|bl z,cI<|aY oM,ar⟩
 refine PC 3 Z<|aS<|Qg 2 Z<|Y Z (RB Z ar.g1 (n:=2) (vs:=[_,_]) Z) Z<|bc Z (Rx Z Z Z) (fun _=>Z) (qJ W X S ar) (fun O ar=>?_);refine Qk 5 Z ?_;exact aB Z Z ⟨⟨_,Z,(fun _=>H3 w (by have:=bz d;omega)),fun e=>by cases e⟩,ar.pop.pop⟩
theorem O8 {G:Cx} (R:Plain G) {K:KP} {n:Nat} (Q:n<=64) {A:Rn} {va:V} (ha:bF K 1 RU (bB n A) va) {B:Rn} {vb:V} (hb:bF K 1 RU (bB n B) vb) {O:N} {L:Own} (ar:D O K L):
  a8 Tryz.prog G 154 [.agg [.int .i64 (.ofNat n),va],.agg [.int .i64 (.ofNat n),vb]] O fun u O'=>∃X b,KP.le K X/\u= .agg [.int .i64 (.ofNat n),.slice b 0 n (.known n)]/\D O' X ((b,.row ((bB n<|vm A B).map gU) 194 false)::L):=by
 refine QO R Tryz.func154 Z<|Qg 2 Z<|kp ar Z (cG Z Z) (fun O b1 ar=>?_);refine kp ar Z (cG Z Z) (fun O b2 ar=>?_);refine kp ar Z (RD (cs:=[J,.av])) (fun O b3 ar=>?_);refine O4 5 Z<|Y Z (RB Z (ar.get 2 Z) (n:=2) (vs:=[_,_]) Z) Z<|Y Z (RB Z ar.g1 (n:=2) (vs:=[_,_]) Z) Z<|fY ar Z (cm (e:=149) (m:=2) (z:=[J,.av]) (cs:=[_,_,_,_]) U U U U<|bj Z Z Z Z<|bj Z Z Z Z bO) (fun _=>Z) (fun O w ar=>?_);have hk9:=ar.Cb;have hle9:=KP.r9 K w (.row [.int .i64 (.ofNat n),va,.int .i64 (.ofNat n),vb] 149 false);have hs9:=ta (n:=n) (b:=w) (e:=149) (ro:=false) (.inr ⟨Z,Z⟩:(K.add w (.row [.int .i64 (.ofNat n),va,.int .i64 (.ofNat n),vb] 149 false)) w (.row [.int .i64 (.ofNat n),va,.int .i64 (.ofNat n),vb] 149 false)) (ha.mono hle9 fun _ _ h=>h) (hb.mono hle9 fun _ _ h=>h);replace ha:=ha.mono hle9 fun _ _ h=>h;replace hb:=hb.mono hle9 fun _ _ h=>h
 refine bc Z (Rx Z Z Z) (fun _=>Z) (As R Q hs9 (Nat.succ_pos _) hk9) (fun O ar=>?_);refine Y Z (dq Z) Z<|O5 7 Z<|QY ar 2 [0,2] Z Z<|bR Z (Rx Z Z Z) (fun _=>Z) (xl R Q ar) ?_;rintro _ O ⟨S,rfl,ar⟩;refine kp ar Z (RD (cs:=[J,.av])) (fun O b6 ar=>?_);refine bE ar Z (RG Z Z Z ar.g0 (m:=2) Z Z (cells':=[_,_]) Z) Z (fun O ar=>?_);refine O4 5 Z ?_;rw[<-Gx (A:=A) (B:=B)] at ar;refine PD 4 Z (bh ([6]++rg 16 21) (fun j t O=>∃(i:Nat),j+i=n/\t.get 6=some (.int .i64 (.ofNat i))/\D O (K.add w (.row [.int .i64 (.ofNat n),va,.int .i64 (.ofNat n),vb] 149 false)) ((b6,.row [.int .i64 (.ofNat n),.slice S 0 n (.known n)] 149 false)::(S,.row ((bB n<|zF A B i).map gU) 194 false)::(b3,.row [J,.av] 149 false)::(b2,.row [.int .i64 (.ofNat n),vb] 149 false)::(b1,.row [.int .i64 (.ofNat n),va] 149 false)::L)) (n) ⟨0,Z,Z,ar⟩ ?_);clear ar;intro j5 t O aq hI;obtain⟨i,ao,T,ar⟩:=hI;obtain⟨oo,rfl⟩:=aq.q1 T Z;refine Qn ar 9 [0,0] Z Z<|aF Z (fun d=>?_) (fun d=>?_)
 ·refine O1 4 Z<|aQ (l:=zp [0,1,2,3,4,5,6,7,8,9,10,11,12,13,14,15]) U U ?_;have hin:=bk d;refine QZ ar 6 [1,0,1,4] Z Z<|Rt (e:=194) (m:=1) ha (eb hin) Z Z Z Z Z (fun ap aa C ab E=>?_);obtain rfl:=E;refine aj Z Z (RE ar C Z Z) Z<|QZ ar 3 [1,3] Z Z<|Rt (e:=194) (m:=1) hb (eb hin) Z Z Z Z Z (fun aE ac F am M=>?_);obtain rfl:=M;refine aj Z Z (RE ar F Z Z) Z (aj Z Z (az (v:=.int .u64 (.ofNat<|cS n (A i) &&& cS n (B i))) Z Z<|Pl (gu Q _)<|gu Q _) Z (aj Z Z (eI (e:=194) (m:=1) U U Z Z hin) Z (ik ar (.there .here) Z Z (aK Z Z Z ar.g1 (m:=1) U Z (by rw[lM_];rw[cM];omega) Z (cells':=((bB n<|zF A B i).set i<|cS n (A i) &&& cS n (B i)).map (gU)) (eN (f:=gU) (v:=(cS n (A i) &&& cS n (B i))) (by rw[cM];exact hin) (by first | omega | rfl))) Z (fun O ar=>?_))));refine⟨aX,?_⟩;rw[H4] at ar;refine aV<|aG<|QR 5 Z<|aL ⟨j5-1,by omega,oF,i+1,by omega,cI<|aY oM,ar⟩
 refine PC 3 Z<|aS<|Qg 2 Z<|Y Z (RB Z ar.g0 (n:=2) (vs:=[_,_]) Z) Z<|kZ ar Z (RG Z Z Z (ar.get 2 Z) (m:=2) Z Z (cells':=[_,_]) Z) Z (fun O ar=>?_);refine Qk 3 Z ?_;have W:i=n:=by have:=bz d;omega
 subst W;rw[Gw] at ar;exact eQ Z Z (ar.get 2 Z) (m:=2) U Z ⟨_,S,hle9,Z,ar.sub (.cons _ (.cons_cons _ (.cons _ (.cons _ (.cons _ (.refl _))))))⟩
theorem NC {G:Cx} (Q:Plain G) {K:KP} {n:Nat} (S:n<=64) {A:Rn} {va:V} (ha:bF K 1 RU (bB n A) va) {O:N} {L:Own} (ar:D O K L):
  a8 Tryz.prog G 155 [.agg [.int .i64 (.ofNat n),va]] O fun u O'=>∃b,u= .agg [.int .i64 (.ofNat n),.slice b 0 n (.known n)]/\D O' K ((b,.row ((bB n<|mX A).map gU) 194 false)::L):=by
 refine QO Q Tryz.func155 Z<|Qg 2 Z<|kp ar Z (cG Z Z) (fun O b1 ar=>?_);refine kp ar Z (RD (cs:=[J,.av])) (fun O b2 ar=>?_);refine O4 5 Z<|Y Z (RB Z ar.g1 (n:=2) (vs:=[_,_]) Z) Z<|bc Z (Rx Z Z Z) (fun _=>Z) (qJ Q S ha ar) (fun O ar=>?_);refine Qi 3 Z<|aF Z (fun h8=>?_) (fun h8=>?_)
 ·exact absurd h8 (by decide)
 refine PK ar 6 [0,1] Z Z<|bR Z (Rx Z Z Z) (fun _=>Z) (xl Q S ar) ?_;rintro _ O ⟨E,rfl,ar⟩;refine kp ar Z (RD (cs:=[J,.av])) (fun O b4 ar=>?_);refine bE ar Z (RG Z Z Z ar.g0 (m:=2) Z Z (cells':=[_,_]) Z) Z (fun O ar=>?_);refine O4 5 Z ?_;rw[<-EX (R:=A)] at ar;refine PD 4 Z (bh ([4,5]++rg 13 35) (fun j t O=>∃(i:Nat),j+i=n/\t.get 4=some (.int .i64 (.ofNat i))/\D O K ((b4,.row [.int .i64 (.ofNat n),.slice E 0 n (.known n)] 149 false)::(E,.row ((bB n<|jc A i 0).map gU) 194 false)::(b2,.row [J,.av] 149 false)::(b1,.row [.int .i64 (.ofNat n),va] 149 false)::L)) (n) ⟨0,Z,Z,ar⟩ ?_);clear ar;intro j5 t O aq T;obtain⟨i,ac,W,ar⟩:=T;obtain⟨oo,rfl⟩:=aq.q1 W Z;refine Qn ar 9 [0,3] Z Z<|aF Z (fun w=>?_) (fun w=>?_)
 ·refine O1 9 Z (aM (bh ([5]++rg 19 29) (fun j t O=>∃(q:Nat),j+q=n/\t.get 5=some (.int .i64 (.ofNat q))/\D O K ((b4,.row [.int .i64 (.ofNat n),.slice E 0 n (.known n)] 149 false)::(E,.row ((bB n<|jc A i q).map gU) 194 false)::(b2,.row [J,.av] 149 false)::(b1,.row [.int .i64 (.ofNat n),va] 149 false)::L)) (n) ⟨0,Z,Z,ar⟩ ?_));clear ar;intro j8 t O aq T;obtain⟨q,am,X,ar⟩:=T;obtain⟨oo,rfl⟩:=aq.q1 X Z;refine Qn ar 9 [0,3] Z Z<|aF Z (fun z=>?_) (fun z=>?_)
  ·refine Oj 6 Z ?_;have hin:=bk w;have hqn:=bk z;refine QY ar 3 [1,3] Z Z<|Rr (e:=194) (m:=1) ha (eb hin) Z Z Z Z (fun ao aa F ab M=>?_);obtain rfl:=M;refine Y Z (RE ar F Z Z) Z<|vQ 1 Z<|Y Z (iA (j:=q) oM U U U Z) Z<|Qi 5 Z<|aF Z (fun B=>?_) (fun B=>?_)
   ·have d:A i q=true:=by have e:=(rG (x:=cS n<|A i) (j:=q) oM).symm.trans B;rw[dk,decide_eq_true hqn,Bool.true_and] at e;exact e
    refine aQ (l:=zp [0,1,2,3,4,5,6,7,8,9,10,11,12,13]) U U (QZ ar 6 [1,0,1,0] Z Z (aj Z Z (eI (e:=194) (m:=1) U U Z Z hqn) Z (aj Z Z (ax Z ar.g1 U<|hH (eb hqn) (by first | omega | rfl)) Z (wQ 1 Z (aj Z Z (iA (j:=i) oM U U U Z) Z (aj Z Z (az (v:=.int .u64 (.ofNat (2 ^ i))) Z Z<|Gh oM) Z (aj Z Z (az (v:=.int .u64 (.ofNat<|cS n (jc A i q q) ||| 2 ^ i)) Z Z<|J8 (gu S _)<|Nat.pow_lt_pow_right oM oM) Z (aj Z Z (eI (e:=194) (m:=1) U U Z Z hqn) Z (ik ar (.there .here) Z Z (aK Z Z Z ar.g1 (m:=1) U Z (by rw[lM_];rw[cM];omega) Z (cells':=((bB n<|jc A i q).set q<|cS n (jc A i q q) ||| 2 ^ i).map (gU)) (eN (f:=gU) (v:=(cS n (jc A i q q) ||| 2 ^ i)) (by rw[cM];exact hqn) (by first | omega | rfl))) Z (fun O ar=>?_))))))))));refine⟨aX,?_⟩;rw[HE hin d] at ar;refine aV<|aG<|QR 5 Z<|aL ⟨j8-1,by omega,oF,q+1,by omega,cI<|aY oM,ar⟩
   have d:A i q=false:=by have e:=(rG (x:=cS n<|A i) (j:=q) oM).symm.trans B;rw[dk,decide_eq_true hqn,Bool.true_and] at e;exact e
   refine aH<|aG<|QR 5 Z ?_;rw[J7 d] at ar;refine aL ⟨j8-1,by omega,oF,q+1,by omega,cI<|aY oM,ar⟩
  refine PC 3 Z<|aS<|aG<|QR 5 Z ?_;have hlp:=bk w;have C:q=n:=by have:=bz z;omega
  subst C;rw[HD] at ar;refine aL ⟨j5-1,by omega,oF,i+1,by omega,cI<|aY oM,ar⟩
 refine PC 3 Z<|aS<|Qg 2 Z<|Y Z (RB Z ar.g0 (n:=2) (vs:=[_,_]) Z) Z<|kZ ar Z (RG Z Z Z (ar.get 2 Z) (m:=2) Z Z (cells':=[_,_]) Z) Z (fun O ar=>?_);refine Qk 3 Z ?_;have C:i=n:=by have:=bz w;omega
 subst C;rw[EW] at ar;exact eQ Z Z (ar.get 2 Z) (m:=2) U Z ⟨E,Z,ar.sub (.cons _ (.cons_cons _ (.cons _ (.cons _ (.refl _)))))⟩
end Go.Ev
namespace Go.Ev
variable [Env]
theorem bM {α:Type} {P:α->Prop} {a b:α} (c:Bool) (h1:P a) (h0:P b):P (bif c then a else b):=by grind
theorem eZ {α:Type} {P:α->Prop} {a b:α} (c:Bool) (h1:c=true->P a) (h0:c=false->P b):P (bif c then a else b):=by grind
theorem iI (a b:List bW):cP (a++b)=cP a++cP b:=by unfold cP;simp_all
theorem zd {e:bW} (h:cD e=false):cP [e]= []:=by unfold cP;simp_all
theorem xp {e:bW} (h:cD e=true):cP [e]= [e.read]:=by unfold cP;simp_all
theorem Cv {l:List bW} (h:cP l= []):∀e∈l,cD e=false:=by
 intro e he;cases b:cD e with
 | false=>rfl
 | true=>
  have:e.read∈cP l:=List.mem_map_of_mem (List.mem_filter.2 ⟨he,b⟩)
  simp_all
def Grown (s s':TS):Prop:=(∃ext,s'.events=s.events++ext/\cP ext= [])/\s'.asked=s.asked
theorem Grown.refl (s:TS):Grown s s:=⟨⟨[],by simp,Z⟩,Z⟩
theorem Grown.trans {s s' s'':TS} (h:Grown s s') (h':Grown s' s''):Grown s s'':=by
 obtain⟨⟨x,h1,b⟩,h3⟩:=h;obtain⟨⟨y,k1,k2⟩,d⟩:=h';exact⟨⟨x++y,by simp_all,by rw[iI,b,k2];rfl⟩,by rw[d,h3]⟩
theorem CT (k:Nat) (x:XI) (s:TS):Grown s (fZ k x s).1:=by
 obtain⟨P,d⟩:∃P:TS×Bool->Prop,P=fun r=>Grown s r.1:=⟨_,Z⟩
 have h0:∀(r:TS×Bool),r.1.events=s.events->r.1.asked=s.asked->P r:=fun r h1 b=>by rw[d];exact⟨⟨[],by rw[h1];simp,Z⟩,b⟩
 have hw:∀(r:TS×Bool) (e:bW),cD e=false->r.1.events=s.events++[e]->r.1.asked=s.asked->P r:=fun r e h1 b h3=>by rw[d];exact⟨⟨[e],b,zd h1⟩,h3⟩
 have:P (fZ k x s):=by
  unfold fZ;refine bM _ (h0 _ Z Z)<|bM _ (hw _ _ Z Z Z)<|bM _ (hw _ _ Z Z Z)<|bM _ (bM _ (h0 _ Z Z)<|h0 _ Z Z)<|bM _ (bM _ (h0 _ Z Z)<|h0 _ Z Z)<|bM _ (h0 _ Z Z)<|bM _ (bM _ (h0 _ Z Z)<|h0 _ Z Z)<|bM _ (h0 _ Z Z)<|bM _ (h0 _ Z Z)<|h0 _ Z Z
 simp_all
theorem uY (k:Nat) (c:XC) (s:TS):Grown s (cj k c s).1:=by
 grind [cj,Grown.refl,CT]
theorem nC (k:Nat) (c:XC):∀(f:Nat) (s:TS),Grown s (tD k c f s)
 | 0,s=>Grown.refl s
 | f+1,s=>by
  show Grown s (bif (cj k c s).2 then tD k c f (cj k c s).1 else(cj k c s).1);exact bM (P:=Grown s) _ ((uY k c s).trans<|nC k c f _)<|uY k c s
def gM (c:XC) (s:TS):Prop:=s.asks=true->∃x,c.ins[s.at_]?=some x/\(x.kind=2∨x.kind=4∨x.kind=5∨x.kind=6)
theorem ES {k:Nat} {x:XI} {s:TS} {br nins:Int} (hx:gW br nins k x=true) (hs:s.asks=false):(fZ k x s).1.asks=true->(fZ k x s).1.at_=s.at_/\(x.kind=2∨x.kind=4∨x.kind=5∨x.kind=6)/\(fZ k x s).2=false:=by
 obtain⟨n,sh,hn,n1,aa,_,_⟩:=iV hx;obtain⟨P,hP⟩:∃P:TS×Bool->Prop,P=fun r=>r.1.asks=true->r.1.at_=s.at_/\(x.kind=2∨x.kind=4∨x.kind=5∨x.kind=6)/\r.2=false:=⟨_,Z⟩
 have ab:∀r:TS×Bool,r.1.asks=s.asks->P r:=fun r h1=>by simp_all
 have ne:∀m:Int,H x.kind m=false->x.kind≠m:=fun m h e=>by rw[e,dL] at h;cases h
 have:P (fZ k x s):=by
  unfold fZ
  grind
 simp_all
theorem zh {k:Nat} {c:XC} (b:eS k c) {s:TS} (d:s.asks=false):gM c (cj k c s).1/\((cj k c s).2=true->(cj k c s).1.asks=false):=by
 unfold cj;cases hx:c.ins[s.at_]? with
 | none=>exact⟨fun h=>(by simp_all),fun h=>(by cases h)⟩
 | some x=>
  have h:=ES (k:=k) (b.right x (gB_ hx)) d;refine⟨fun ha=>?_,fun h2=>?_⟩
  ·simp_all
  simp_all
theorem Ab {k:Nat} {c:XC} (d:eS k c):∀(f:Nat) (s:TS),s.asks=false->gM c (tD k c f s)
 | 0,s,b=>fun h=>by rw[show s.asks=true from h] at b;cases b
 | f+1,s,b=>by
  have h:=zh d b;show gM c (bif (cj k c s).2 then tD k c f (cj k c s).1 else(cj k c s).1);cases u:(cj k c s).2 with
  | true=>exact Ab d f _ (h.2 u)
  | false=>exact h.1
theorem oi {k:Nat} {c:XC} (b:eS k c):gM c (jl k c):=Ab b _ _ Z
theorem pj {k:Nat} {c:XC} (b:eS k c) (s:TS) (v:Int):gM c (ea k c s v):=Ab b _ _ Z
theorem im {a:sA} {v:Int} (h:a.kind=2∨a.kind=4∨a.kind=5∨a.kind=6):cD (bU a v)=true/\(bU a v).read=v:=by
 unfold bU;rcases h with h | h | h | h<;>rw[h]
 ·exact⟨Z,Z⟩
 ·exact bM (P:=fun e:bW=>cD e=true/\e.read=v) (H v a.a) ⟨Z,Z⟩ ⟨Z,Z⟩
 ·exact⟨Z,Z⟩
 exact⟨Z,Z⟩
theorem lK {k:Nat} {c:XC} {s:TS} (h:gM c s) (b:s.asks=true):((jk k c s).kind=2∨(jk k c s).kind=4∨(jk k c s).kind=5∨(jk k c s).kind=6):=by
 obtain⟨x,hx,hk⟩:=h b;unfold jk;rw[hx];exact hk
theorem q9 {k:Nat} {c:XC} {s:TS} (h:gM c s) (b:s.asks=true) (v:Int):∃ext,(ea k c s v).events=s.events++bU (jk k c s) v::ext/\cP (bU (jk k c s) v::ext)= [v]:=by
 obtain⟨⟨ext,h1,d⟩,_⟩:=nC k c (gT c) (eF k c s v);obtain⟨u,w⟩:=im (v:=v) (lK (k:=k) h b);refine⟨ext,?_,?_⟩
 ·unfold ea;rw[h1];show(s.events++[_])++ext=_
  simp_all
 rw[show bU (jk k c s) v::ext= [bU (jk k c s) v]++ext from Z,iI,xp u,d,w];rfl
theorem sn {k:Nat} {c:XC} (b:eS k c):∀(A:List Int) (s:TS),gM c s->gM c (jJ k c A s)/\∃ext m,(jJ k c A s).events=s.events++ext/\cP ext=A.take m/\((jJ k c A s).asks=true->A.length<=m)
 | [],s,h=>⟨h,[],0,by show s.events=_;simp,Z,fun _=>nR_ _⟩
 | v::r,s,h=>by
  show gM c (bif s.asks then jJ k c r (ea k c s v) else s)/\∃ext m,(bif s.asks then jJ k c r (ea k c s v) else s).events=s.events++ext/\cP ext=(v::r).take m/\((bif s.asks then jJ k c r (ea k c s v) else s).asks=true->(v::r).length<=m);cases d:s.asks with
  | false=>exact⟨h,[],0,by simp_all,Z,fun h'=>by simp_all⟩
  | true=>
   obtain⟨e1,h1,u⟩:=q9 (k:=k) h d v;obtain⟨q,ext,m,h3,h4,h5⟩:=sn b r _ (pj b s v);refine⟨q,bU (jk k c s) v::e1++ext,m+1,?_,?_,fun h'=>?_⟩
   ·simp_all
   ·rw[iI,u,h4];rfl
   simp_all
theorem zg {k:Nat} {c:XC} (v:Int):∀(A:List Int) (s:TS),jJ k c (A++[v]) s=bif (jJ k c A s).asks then ea k c (jJ k c A s) v else jJ k c A s
 | [],s=>rfl
 | a::r,s=>by
  show(bif s.asks then jJ k c (r++[v]) (ea k c s a) else s)=bif (bif s.asks then jJ k c r (ea k c s a) else s).asks then ea k c (bif s.asks then jJ k c r (ea k c s a) else s) v else(bif s.asks then jJ k c r (ea k c s a) else s);cases ha:s.asks with
  | false=>simp_all
  | true=>simp only[cond_true];exact zg v r _
theorem sr {k:Nat} {c:XC} (b:eS k c) (A:List Int):gM c (fb k c A)/\∃m,cP (fb k c A).events=A.take m/\((fb k c A).asks=true->A.length<=m):=by
 obtain⟨h,ext,m,h1,h2,h3⟩:=sn b A (jl k c) (oi b);obtain⟨⟨e0,h4,h5⟩,_⟩:=nC k c (gT c) ⟨0,List.replicate c.br.toNat 0,[],0,0,false⟩
 grind [fb,iI,jl]
theorem ny {s:TS} {l:List bW}:ru s l=true↔∃rest,s.events=l++rest:=by
 grind [ru,de,List.take_append_drop,jz]
def lU (k:Nat) (c:XC) (l:List bW):Prop:=jt k c=true/\ru (fb k c<|cP l) l=true
theorem EE {k:Nat} {c:XC} (b:eS k c) {l rest:List bW} (h:(fb k c<|cP l).events=l++rest):cP rest= []:=by
 obtain⟨_,m,h1,_⟩:=sr b (cP l);rw[h,iI] at h1;have:=congrArg List.length h1
 grind [List.length_eq_zero_iff]
theorem II {k:Nat} {c:XC} (h:jt k c=true):lU k c []:=⟨h,ny.2 ⟨_,Z⟩⟩
theorem DU {k:Nat} {c:XC} {l:List bW} {e:bW} (h:lU k c l) (he:(fb k c<|cP l).events[l.length]?=some e):lU k c (l++[e])/\cD e=false:=by
 obtain⟨hf,h⟩:=h;have hc:=(oy hf).1;obtain⟨rest,b⟩:=ny.1 h;have hq:=EE hc b;rw[b,gR_<|nR_ _,Nat.sub_self] at he;cases rest with
 | nil=>cases he
 | cons e' r=>
  simp only[List.getElem?_cons_zero,oJ_] at he;subst he;have hne:=Cv hq e' (mS_ ..);refine⟨⟨hf,?_⟩,hne⟩;rw[iI,zd hne,List.append_nil];exact ny.2 ⟨r,by rw[b];simp⟩
theorem BU {k:Nat} {c:XC} {l:List bW} (h:lU k c l) (he:(fb k c<|cP l).events[l.length]?=none) (b:(fb k c<|cP l).asks=true) (v:Int):lU k c (l++[bU (jk k c<|fb k c<|cP l) v]):=by
 obtain⟨hf,h⟩:=h;have hc:=(oy hf).1;obtain⟨rest,d⟩:=ny.1 h
 have hl:rest= []:=by
  simp_all
 subst hl;rw[List.append_nil] at d;have hk:=(sr hc<|cP l).1;obtain⟨u,w⟩:=im (v:=v) (lK (k:=k) hk b);refine⟨hf,?_⟩;rw[iI,xp u,w]
 have e1:fb k c (cP l++[v])=ea k c (fb k c<|cP l) v:=by
  unfold fb at b⊢;rw[zg,b];rfl
 rw[e1];obtain⟨ext,h1,_⟩:=q9 (k:=k) hk b v;exact ny.2 ⟨ext,by rw[h1,d];simp⟩
theorem kO {k:Nat} {c:XC}:H (jU k c) 0=jt k c:=by
 unfold jU;cases h:jt k c with
 | true=>rfl
 | false=>
  simp only[cond_false];cases h1:H (dR k c) 0 with
  | true=>rfl
  | false=>exact h1
theorem sb {k:Nat} {c:XC} {l:List bW}:(bZ k c l).2=0↔lU k c l:=by
 unfold bZ lU;rw[kO];cases hf:jt k c with
 | false=>
  refine⟨fun h=>?_,fun h=>(by cases h.1)⟩;have h:jU k c=0:=h;have:=kO (k:=k) (c:=c);rw[h,hf] at this;cases this
 | true=>
  show(lk k c (fb k c<|cP l) l).2=0↔_;unfold lk;cases ht:ru (fb k c<|cP l) l with
  | false=>exact⟨fun h=>(by cases h),fun h=>(by cases h.2)⟩
  | true=>
   refine⟨fun _=>⟨Z,Z⟩,fun _=>?_⟩;simp only[bf,cond_true,cond_false]
   grind
theorem pO {k:Nat} {c:XC} {l:List bW} (h:(bZ k c l).2=0):
  (∃e,bZ k c l=(⟨e,ia,0⟩,0)/\lU k c (l++[e])/\cD e=false)∨
  (∃a,bZ k c l=(⟨j0,a,0⟩,0)/\(a.kind=2∨a.kind=4∨a.kind=5∨a.kind=6)/\∀v,lU k c (l++[bU a v]))∨
  (∃n,bZ k c l=(⟨j0,ia,n⟩,0)):=by
 have hF:=sb.1 h;obtain⟨hf,b⟩:=hF;have hc:=(oy hf).1;unfold bZ;rw[kO,hf];show(∃e,lk k c (fb k c<|cP l) l=_/\_)∨_;simp only[bf,cond_true,cond_false];unfold lk;rw[b];simp only[bf,cond_true,cond_false];cases he:(fb k c<|cP l).events[l.length]? with
 | some e=>
  obtain⟨h1,h2⟩:=DU ⟨hf,b⟩ he
  simp_all
 | none=>
  cases d:(fb k c<|cP l).asks with
  | true=>exact .inr (.inl ⟨_,Z,lK (sr hc _).1 d,fun v=>BU ⟨hf,b⟩ he d v⟩)
  | false=>simp_all
theorem sZ {α β:Type} (f:α->β) {l:List α} (h:(l.map f).Nodup):l.Nodup:=List.Pairwise.of_map f (fun _ _ hh e=>hh (congrArg f e)) h
theorem An {α:Type}:∀{l m:List α},l.Nodup->(∀x∈l,x∈m)->m.length<=l.length->l.Perm m
 | [],m,_,_,h=>by simp_all
 | x::l,m,b,d,h=>by
  rw[List.nodup_cons] at b;obtain⟨i,hi⟩:=gO_ (d x<|mS_ ..);have hp:=kB hi;have hlen:=hp.length_eq;rw[List.length_cons] at hlen h;refine(List.Perm.cons x<|An (l:=l) (m:=m.eraseIdx i) b.2 (fun y hy=>?_) oM).trans hp.symm
  grind
theorem Ck {α:Type}:∀{l m:List α},l.Nodup->(∀x∈l,x∈m)->l.length<=m.length
 | [],_,_,_=>Nat.zero_le _
 | x::l,m,b,d=>by
  rw[List.nodup_cons] at b;obtain⟨i,hi⟩:=gO_ (d x<|mS_ ..);have hp:=kB hi;have hlen:=hp.length_eq;rw[List.length_cons] at hlen⊢
  have:=Ck (l:=l) (m:=m.eraseIdx i) b.2 fun y hy=>by
   grind
  omega
def gb (loc:Int):List bW->Nat
 | []=>0
 | e::l=>(bif (bif bd e then H e.loc loc else false) then 1 else 0)+gb loc l
def ib (loc:Int):List (List bW)->Nat
 | []=>0
 | l::r=>gb loc l+ib loc r
def re (loc:Int) (p:List Int×Int):Bool:=H p.2 loc
theorem qp {loc:Int} {t:Nat}:∀{l:List bW} {n:Nat},((ef t l n).filter<|re loc).length=gb loc l
 | [],_=>rfl
 | e::l,n=>by
  show(List.filter (re loc) (bif bd e then([.ofNat (t+1),.ofNat n],e.loc)::ef t l (n+1) else ef t l (n+1))).length=(bif (bif bd e then H e.loc loc else false) then 1 else 0)+gb loc l;cases hw:bd e with
  | false=>
   simp only[cond_false,nA_];exact qp
  | true=>
   simp only[cond_true];rw[List.filter_cons];show(if H e.loc loc=true then _ else _:LM).length=_;cases he:H e.loc loc with
   | true=>simp only[if_true,cond_true,List.length_cons];rw[qp];omega
   | false=>simp only[cond_false,nA_];rw[if_neg (by decide)];exact qp
theorem tK {loc:Int}:∀{ls:List (List bW)} {t:Nat},((fu ls t).filter<|re loc).length=ib loc ls
 | [],_=>rfl
 | l::ls,t=>by
  show(List.filter (re loc) (ef t l 0++fu ls (t+1))).length=gb loc l+ib loc ls;rw[List.filter_append,lA_,qp,tK]
theorem zu {t:Nat} {k:List Int} {v:Int}:∀{l:List bW} {n:Nat},(k,v)∈ef t l n↔∃i e,l[i]?=some e/\bd e=true/\k= [.ofNat (t+1),.ofNat (n+i)]/\v=e.loc
 | [],n=>⟨fun h=>(by cases h),fun⟨i,e,h,_⟩=>by simp at h⟩
 | e::l,n=>by
  show(k,v)∈(bif bd e then([.ofNat (t+1),.ofNat n],e.loc)::ef t l (n+1) else ef t l (n+1))↔_;have ih:=zu (t:=t) (k:=k) (v:=v) (l:=l) (n:=n+1)
  have up:(k,v)∈ef t l (n+1)↔∃i e',l[i]?=some e'/\bd e'=true/\k= [.ofNat (t+1),.ofNat (n+(i+1))]/\v=e'.loc:=by
   grind
  have cons:(∃i e',(e::l)[i]?=some e'/\bd e'=true/\k= [.ofNat (t+1),.ofNat (n+i)]/\v=e'.loc)↔(bd e=true/\k= [.ofNat (t+1),.ofNat n]/\v=e.loc)∨∃i e',l[i]?=some e'/\bd e'=true/\k= [.ofNat (t+1),.ofNat (n+(i+1))]/\v=e'.loc:=by
   constructor
   ·grind
   rintro (⟨b,h3,h4⟩ | ⟨i,e',h1,b,h3,h4⟩)
   ·exact⟨0,e,Z,b,h3,h4⟩
   exact⟨i+1,e',by simpa using h1,b,h3,h4⟩
  grind
theorem lS {k:List Int} {v:Int}:∀{ls:List (List bW)} {t:Nat},(k,v)∈fu ls t↔∃s i l e,ls[s]?=some l/\l[i]?=some e/\bd e=true/\k= [.ofNat (t+s+1),.ofNat i]/\v=e.loc
 | [],t=>⟨fun h=>(by cases h),fun⟨s,i,l,e,h,_⟩=>by simp at h⟩
 | l::ls,t=>by
  show(k,v)∈ef t l 0++fu ls (t+1)↔_;rw[List.mem_append,zu,lS (ls:=ls)];constructor
  ·rintro (⟨i,e,h1,b,h3,h4⟩ | ⟨s,i,l',e,h0,h1,b,h3,h4⟩)
   ·exact⟨0,i,l,e,Z,h1,b,by rw[h3,nA_],h4⟩
   exact⟨s+1,i,l',e,by simpa using h0,h1,b,by grind,h4⟩
  grind
theorem mq {k:List Int} {v:Int}:∀{ls:List (List bT)} {loc:Nat},(k,v)∈ij ls loc↔∃ln r id,ls[ln]?=some r/\id∈r/\k=id.ints/\v= .ofNat (loc+ln)
 | [],loc=>⟨fun h=>(by cases h),fun⟨ln,r,id,h,_⟩=>by simp at h⟩
 | r::ls,loc=>by
  show(k,v)∈eM loc r++ij ls (loc+1)↔_;rw[List.mem_append,mq (ls:=ls)];constructor
  ·rintro (h | ⟨ln,r',id,h1,b,h3,h4⟩)
   ·obtain⟨id,h1,b⟩:=List.mem_map.1 h
    grind
   exact⟨ln+1,r',id,by simpa using h1,b,h3,by grind⟩
  rintro ⟨ln,r',id,h1,b,h3,h4⟩;cases ln with
  | zero=>
   have:r=r':=by simpa using h1
   subst this;exact .inl<|List.mem_map.2 ⟨id,b,by simp_all⟩
  | succ ln=>grind
theorem se {loc:Nat} (r:List bT):(eM loc r).filter (re (.ofNat loc))=eM loc r:=List.filter_eq_self.2 fun p hp=>by
 obtain⟨id,_,rfl⟩:=List.mem_map.1 hp;show H (.ofNat loc) (.ofNat loc)=true;rw[eh];simp
theorem q7 {loc x:Nat} (r:List bT) (h:loc≠x):(eM loc r).filter (re (.ofNat x))= []:=List.filter_eq_nil_iff.2 fun p hp=>by
 obtain⟨id,_,rfl⟩:=List.mem_map.1 hp;show¬H (.ofNat loc) (.ofNat x)=true;rw[eh];simp[h]
theorem uS {x:Nat}:∀{ls:List (List bT)} {loc ln:Nat} {r:List bT},ls[ln]?=some r->loc+ln=x->(ij ls loc).filter (re (.ofNat x))=eM x r
 | [],_,_,_,h,_=>by simp at h
 | q::ls,loc,0,r,h,hx=>by
  have:q=r:=by simpa using h
  subst this;have hx:loc=x:=by omega
  subst hx;show(eM loc q++ij ls (loc+1)).filter _=_;rw[List.filter_append,se]
  have:(ij ls (loc+1)).filter (re (.ofNat loc))= []:=List.filter_eq_nil_iff.2 fun p hp=>by
   obtain⟨k,v⟩:=p;obtain⟨ln,r,id,_,_,_,rfl⟩:=mq.1 hp;show¬H (.ofNat (loc+1+ln)) (.ofNat loc)=true;rw[eh];simp;omega
  rw[this,List.append_nil]
 | q::ls,loc,ln+1,r,h,hx=>by
  show(eM loc q++ij ls (loc+1)).filter _=_;rw[List.filter_append,q7 q oM,uS (ls:=ls) (loc:=loc+1) (ln:=ln) (by simpa using h) oM];rfl
def x6 (g:XG) (loc:Int) (id:bT):Bool:=
 bif (cZ g id).isSome then(bif H id.cH 0 then false else bif bd (mE<|cZ g id) then H (mE<|cZ g id).loc loc else false) else false
structure Fg (g:XG) (ln:Nat) (r:List bT):Prop where
 Oh:∀id∈r,x6 g (.ofNat ln) id=true
 nodup:r.Nodup
 Dy:r.length=ib (.ofNat ln) g.threads
theorem sT {x y:bT} (h:x.ints=y.ints):x=y:=by
 have:bY x.ints y.ints=true:=de.2 h;rw[bT.same] at this;exact de.1 this
theorem zU {g:XG} {ln:Nat} {id:bT}:x6 g (.ofNat ln) id=true↔(id.ints,Int.ofNat ln)∈fu g.threads 0:=by
 rw[lS];unfold x6;constructor
 ·intro h;cases b:cZ g id with
  | none=>rw[b] at h;cases h
  | some e=>
   rw[b] at h;obtain⟨th,ix⟩:=id;have h:(bif H th 0 then false else bif bd e then H e.loc (.ofNat ln) else false)=true:=h;cases h0:H th 0 with
   | true=>rw[h0] at h;cases h
   | false=>
    rw[h0] at h;cases hw:bd e with
    | false=>rw[hw] at h;cases h
    | true=>
     rw[hw] at h
     have hl:e.loc= .ofNat ln:=by
      have h:H e.loc (.ofNat ln)=true:=h;rw[dK] at h;simp_all
     obtain⟨t,i,rfl,rfl,_,_,hp⟩:=Iv (by rw[b];rfl);cases t with
     | zero=>cases h0
     | succ t=>
      rw[gk] at b;cases d:g.threads[t]? with
      | none=>simp_all
      | some l=>
       rw[d] at b;exact⟨t,i,l,e,d,b,hw,by rw[nA_];rfl,hl.symm⟩
 rintro ⟨s,i,l,e,h1,u,h3,h4,h5⟩;obtain⟨th,ix⟩:=id;rw[nA_] at h4;have h4: [th,ix]= [.ofNat (s+1),.ofNat i]:=h4;simp only[List.cons.injEq,and_true] at h4;obtain⟨rfl,rfl⟩:=h4;have he:cZ g ⟨.ofNat (s+1),.ofNat i⟩=some e:=by rw[gk,h1];exact u
 rw[he];show(bif H (.ofNat (s+1)) 0 then false else bif bd e then H e.loc (.ofNat ln) else false)=true;rw[show H (.ofNat (s+1)) 0=false by rw[show(0:Int)= .ofNat 0 from Z,eh];simp,h3,<-h5]
 grind [eh]
theorem tB {ls:List (List bW)} {t:Nat}:(fu ls t).Nodup:=sZ _ qg
theorem s5 {loc:Nat} {r:List bT} (h:r.Nodup):(eM loc r).Nodup:=by
 grind [eM,sT]
theorem uT {g:XG} (w:∀(t:Nat) (l:List bW) (i:Nat) (e:bW),g.threads[t]?=some l->l[i]?=some e->bd e=true->∃ln:Nat,e.loc= .ofNat ln/\ln<g.order.length):
  (∀(ln:Nat) (r:List bT),g.order[ln]?=some r->Fg g ln r)↔(fu g.threads 0).Perm (ij g.order 0):=by
 constructor
 ·intro h;refine An tB (fun p hp=>?_) ?_
  ·obtain⟨k,v⟩:=p;obtain⟨s,i,l,e,h1,B,h3,h4,h5⟩:=lS.1 hp;obtain⟨ln,C,E⟩:=w s l i e h1 B h3;obtain⟨r,u⟩:=cT E;have ho:=h ln r u
   have hq:(eM ln r).Perm ((fu g.threads 0).filter<|re (.ofNat ln)):=by
    refine An (s5 ho.nodup) (fun q hq=>?_) ?_
    ·obtain⟨id,d,rfl⟩:=List.mem_map.1 hq;refine List.mem_filter.2 ⟨zU.1<|ho.Oh id d,?_⟩;show H (.ofNat ln) (.ofNat ln)=true;rw[eh];simp
    rw[tK,<-ho.Dy];unfold eM;simp_all
   have hm:(k,v)∈eM ln r:=hq.mem_iff.2 (List.mem_filter.2 ⟨hp,by show H v (.ofNat ln)=true;rw[h5,C,eh];simp⟩);obtain⟨id,d,he⟩:=List.mem_map.1 hm;cases he;exact mq.2 ⟨ln,r,id,u,d,Z,by rw[nA_]⟩
  
  have key:∀(m:Nat) (ls:List (List bT)),(∀(ln:Nat) (r:List bT),ls[ln]?=some r->Fg g (m+ln) r)->((ij ls m).Nodup/\∀p∈ij ls m,p∈fu g.threads 0):=by
   intro m ls;induction ls generalizing m with
   | nil=>intro _;exact⟨List.nodup_nil,fun p hp=>by cases hp⟩
   | cons r ls ih=>
    intro hh
    obtain⟨F,G⟩:=ih (m+1) fun ln r' A=>by
     have:=hh (ln+1) r' (by simpa using A)
     grind
    have h0:=hh 0 r Z;rw[Nat.add_zero] at h0;refine⟨?_,fun p hp=>?_⟩
    ·show(eM m r++ij ls (m+1)).Nodup;rw[List.nodup_append];refine⟨s5 h0.nodup,F,fun a K b hb hab=>?_⟩;obtain⟨id,_,rfl⟩:=List.mem_map.1 K
     grind [mq]
    rcases List.mem_append.1 (show p∈eM m r++ij ls (m+1) from hp) with hp | hp
    ·obtain⟨id,d,rfl⟩:=List.mem_map.1 hp;exact zU.1<|h0.Oh id d
    exact G p hp
  obtain⟨L,k2⟩:=key 0 g.order fun ln r u=>by simp_all
  exact Ck L k2
 intro hp ln r u;have z:∀id∈r,(id.ints,Int.ofNat ln)∈fu g.threads 0:=fun id d=>hp.mem_iff.2 (mq.2 ⟨ln,r,id,u,d,Z,by rw[nA_]⟩)
 have hf:=uS (x:=ln) (loc:=0) u (nA_ _);refine⟨fun id d=>zU.2 (z id d),?_,?_⟩
 ·grind [tB,eM,sZ]
 have:=(hp.filter<|re (.ofNat ln)).length_eq
 grind [tK,eM]
theorem lN {g:XG} (h1:eP g=false) (b:¬dD g):cd g=2:=by
 have h3:cd g≠0:=fun h=>b (dz.1 h)
 unfold cd at h3⊢
 grind
theorem CX {g:XG} (h:cq 4 (.ofNat g.threads.length)=true):eP g=true:=by unfold eP;rw[h];rfl
theorem CZ {g:XG} (h:cq 6 (.ofNat g.init.length)=true):eP g=true:=by
 grind [eP]
theorem CY {g:XG} {i:Nat} {x:List bW} (hx:g.threads[i]?=some x) (h:cq 14 (.ofNat x.length)=true):eP g=true:=by
 grind [eP]
theorem EV {g:XG} {i:Nat} (h1:cq 4 (.ofNat g.threads.length)=false) (h2:cq 6 (.ofNat g.init.length)=false) (hi:g.threads.length<=i) (h3:∀(k:Nat) (l:List bW),k<i->g.threads[k]?=some l->cq 14 (.ofNat l.length)=false):eP g=false:=by
 grind [eP,gO_]
theorem pr {g:XG} (h:eP g=true):cd g=3:=by unfold cd;rw[h];rfl
theorem M6 {a b:Int} (h:H a b=true):a=b:=by rw[dK] at h;simp_all
theorem CE {e:bW} {n:Nat} (h:bm e (.ofNat n)=true) (hw:bd e=true):∃ln:Nat,e.loc= .ofNat ln/\ln<n:=by
 unfold bm at h
 have hk:H e.kind 4=false:=by
  grind [bd,M6]
 rw[hk] at h
 have key:(bif bf (cq e.loc 0) then cq e.loc (.ofNat n) else false)=true:=by
  simp_all
 cases h0:cq e.loc 0 with
 | true=>rw[h0] at key;cases key
 | false=>
  rw[h0] at key;obtain⟨ln,hl⟩:=iF h0;rw[hl] at key;exact⟨ln,hl,bk key⟩
theorem Jo {g:XG} {t n:Nat} {e:bW} {q:bT} (h:uQ g t n e q=true):bm e (.ofNat g.init.length)=true/\cF g ⟨.ofNat (t+1),.ofNat n⟩ q=true:=by
 unfold uQ at h
 simp_all
theorem Jp {g:XG} {t n:Nat} {e:bW} {q:bT} (h1:bm e (.ofNat g.init.length)=true) (b:cF g ⟨.ofNat (t+1),.ofNat n⟩ q=true):uQ g t n e q=true:=by
 unfold uQ;rw[h1];exact b
theorem pw {loc:Int}:∀{l:List bW} {i:Nat} {x:bW},l[i]?=some x->gb loc (l.take (i+1))=gb loc (l.take i)+(bif (bif bd x then H x.loc loc else false) then 1 else 0)
 | [],_,_,h=>by simp at h
 | e::l,0,x,h=>by
  have:e=x:=by simpa using h
  subst this;show(bif (bif bd e then H e.loc loc else false) then 1 else 0)+gb loc []=0+_;rw[nA_];rfl
 | e::l,i+1,x,h=>by
  have h':l[i]?=some x:=by simpa using h
  show(bif (bif bd e then H e.loc loc else false) then 1 else 0)+gb loc (l.take (i+1))=(bif (bif bd e then H e.loc loc else false) then 1 else 0)+gb loc (l.take i)+_;rw[pw h',Nat.add_assoc]
theorem KY {loc:Int} {l:List bW} {i:Nat} {x:bW} (h:l[i]?=some x) (h1:bd x=true) (b:H x.loc loc=true):gb loc (l.take (i+1))=gb loc (l.take i)+1:=by
 rw[pw h,h1,b];rfl
theorem Ig {loc:Int} {l:List bW} {i:Nat} {x:bW} (h:l[i]?=some x) (h1:bd x=false∨H x.loc loc=false):gb loc (l.take (i+1))=gb loc (l.take i):=by
 grind [pw]
theorem uA {loc:Int}:∀{ls:List (List bW)} {i:Nat} {x:List bW},ls[i]?=some x->ib loc (ls.take (i+1))=ib loc (ls.take i)+gb loc x
 | [],_,_,h=>by simp at h
 | l::ls,0,x,h=>by
  have:l=x:=by simpa using h
  subst this;show gb loc l+ib loc []=0+_;rw[nA_];rfl
 | l::ls,i+1,x,h=>by
  have h':ls[i]?=some x:=by simpa using h
  show gb loc l+ib loc (ls.take (i+1))=gb loc l+ib loc (ls.take i)+_;rw[uA h',Nat.add_assoc]
theorem tL {loc:Int}:∀{l:List bW},gb loc l<=l.length
 | []=>nR_ _
 | e::l=>by
  have:=tL (loc:=loc) (l:=l);show(bif (bif bd e then H e.loc loc else false) then 1 else 0)+gb loc l<=l.length+1;cases (bif bd e then H e.loc loc else false) with
  | true=>show 1+_<=_;omega
  | false=>show 0+_<=_;omega
theorem yA {loc:Int} {b:Nat}:∀{ls:List (List bW)},(∀l∈ls,l.length<=b)->ib loc ls<=ls.length*b
 | [],_=>Nat.zero_le _
 | l::ls,h=>by
  have h1:=h l (mS_ ..);have h2:=yA (loc:=loc) (ls:=ls) fun x hx=>h x (mC_ _ hx)
  grind [tL,ib,Nat.succ_mul]
theorem zP {loc:Int} {ls:List (List bW)} {i:Nat} (h1:ls.length<=4) (d:∀l∈ls,l.length<=14):ib loc (ls.take i)<=56:=by
 have h3:=yA (loc:=loc) (b:=14) (ls:=ls.take i) fun l hl=>d l (List.mem_of_mem_take hl)
 grind
theorem Ji {α:Type} {l:List α} (h:l.Nodup) {i j:Nat} {a b:α} (aa:i<j) (ha:l[i]?=some a) (hb:l[j]?=some b):a≠b:=fun e=>by
 grind [List.pairwise_iff_getElem]
theorem Jj {α:Type} {l:List α} (h:∀(i j:Nat) (a b:α),i<j->l[i]?=some a->l[j]?=some b->a≠b):l.Nodup:=
 List.pairwise_iff_getElem.2 fun i j h1 u d=>h i j _ _ d (gC h1) (gC u)
def iR (g:XG) (loc:Int):Int:=match(bV g loc).getLast? with | none=>0 | some id=>(mE<|cZ g id).write
def pE (k:Nat):List XC->List (List bW)->Option (List Int)
 | [],_=>some []
 | _::_,[]=>none
 | c::l,r::g=>bif H (bZ k c r).2 0 then(pE k l g).map fun e=>(bZ k c r).1.fin::e else none
def iP (k:Nat) (l:List XC) (g:XG):Option (List Int):=
 bif bf (H (cd g) 0) then none else bif bf (H (.ofNat l.length) (.ofNat g.threads.length)) then none else pE k l g.threads
def uP (g:XG):List Int->Nat->Bool
 | [],_=>true
 | v::r,i=>bif bf (H v<|iR g (.ofNat i)) then false else uP g r (i+1)
def jL (k:Nat) (l:List XC) (m:List Int) (g:XG):Option (List Int):=
 match iP k l g with
 | none=>none
 | some e=>bif bf (H (.ofNat m.length) (.ofNat g.init.length)) then none else bif uP g m 0 then some e else none
def OL (k:Nat) (l:List XC) (m:List Int) (g:XG):Bool:=(jL k l m g).isSome
structure XM where
 mem:List Int
 g:XG
structure zA where
 lD:bW
 fr:bT
 place:Int
 mem:List Int
def iE (n:pg):Int:=bif bf (H n.ask.kind 0) then n.ask.loc else n.event.loc
def dy (n:pg) (m:List Int) (g:XG):zA:=
 bif H n.event.kind 4 then⟨n.event,⟨0,0⟩,0,m⟩ else
 let all:=bV g (iE n)
 let lD:=bif bf (H n.ask.kind 0) then bU n.ask ((m[(iE n).toNat]?).getD 0) else n.event
 let fr:=bif bf (H n.ask.kind 0) then(all.getLast?).getD ⟨0,0⟩ else⟨0,0⟩
 bif bf (H lD.kind 1) then⟨lD,fr,.ofNat all.length,m.set (iE n).toNat lD.write⟩ else⟨lD,fr,0,m⟩
def fx (n:pg) (g:XG):Bool:=bif bf (H n.event.kind 4) then(bif cq (iE n) 0 then true else bf (cq (iE n) (.ofNat g.init.length))) else false
def jr (k:Nat) (c:XC) (row:List bW) (g:XG):Int:=
 bif bf (H (bZ k c row).2 0) then(bZ k c row).2 else
 bif bf (H (bZ k c row).1.fin 0) then 10 else
 bif bf (cq (.ofNat row.length) 14) then 3 else
 bif fx (bZ k c row).1 g then 2 else 0
def yG (p:zA) (th:Int) (g:XG):Option XM×Int:=
 match gD g th p.lD p.fr p.place with
 | (some g',e)=>(some ⟨p.mem,g'⟩,e)
 | (none,e)=>(none,e)
def fI (k:Nat) (l:List XC) (r:XM) (t:Nat):Option XM×Int:=
 match l[t]?,r.g.threads[t]? with
 | some c,some row=>bif bf (H (jr k c row r.g) 0) then(none,jr k c row r.g) else yG (dy (bZ k c row).1 r.mem r.g) (.ofNat (t+1)) r.g
 | _,_=>(none,2)
structure fz (k:Nat) (l:List XC) (r:XM):Prop where
 Ib:cd r.g=0
 len:r.g.threads.length=l.length
 mem:r.mem.length=r.g.init.length
 last:∀i:Nat,i<r.g.init.length->r.mem[i]?=some (iR r.g (.ofNat i))
 fits:∀(t:Nat) (c:XC) (row:List bW),l[t]?=some c->r.g.threads[t]?=some row->lU k c row
theorem r7 {k:Nat}:∀{l:List XC} {g:List (List bW)},l.length=g.length->(∀(t:Nat) (c:XC) (row:List bW),l[t]?=some c->g[t]?=some row->lU k c row)->∃e,pE k l g=some e/\e.length=l.length
 | [],_,_,_=>⟨[],Z,Z⟩
 | _::_,[],h,_=>by simp at h
 | c::l,r::g,h,hf=>by
  obtain⟨e,he,hl⟩:=r7 (k:=k) (l:=l) (g:=g) (by simpa using h) (fun t c row h1 b=>hf (t+1) c row (by simpa using h1) (by simpa using b));have:=sb.2 (hf 0 c r Z Z);refine⟨(bZ k c r).1.fin::e,?_,?_⟩
  ·unfold pE;rw[this,he];rfl
  simp[hl]
theorem Ci {g:XG}:∀{m:List Int} {i:Nat},(∀j v,m[j]?=some v->v=iR g (.ofNat (i+j)))->uP g m i=true
 | [],_,_=>rfl
 | v::r,i,h=>by
  have h0:=h 0 v Z;rw[Nat.add_zero] at h0;unfold uP;rw[h0,dL];exact Ci fun j v hv=>by have:=h (j+1) v (by simpa using hv);rwa[show i+1+j=i+(j+1) by omega]
theorem fz.is {k:Nat} {l:List XC} {r:XM} (h:fz k l r):OL k l r.mem r.g=true:=by
 obtain⟨e,he,_⟩:=r7 (k:=k) (l:=l) (g:=r.g.threads) h.len.symm h.fits;unfold OL jL iP;rw[h.Ib,h.len,dL,he];simp only[show bf (H 0 0)=false from Z,show bf true=false from Z,cond_false];rw[h.mem,Ci fun j v hv=>?_]
 ·simp only[dL,bf,cond_true,cond_false];rfl
 have hj:=(gA.1 hv).1;have:=h.last j (by rw[<-h.mem];exact hj)
 simp_all
theorem Jv {g:XG} (h:dD g) {ln:Nat} {r:List bT} {id:bT} (b:g.order[ln]?=some r) (hm:id∈r):∃w,cZ g id=some w:=by
 have h1:=h.perm.mem_iff.2 (wZ (loc:=0) b hm);obtain⟨s,i,l,e,d,k2,_,u,_⟩:=lS.1 h1;have e1:id=⟨.ofNat (s+1),.ofNat i⟩:=sT (by rw[u,nA_];rfl);subst e1;exact⟨e,by rw[gk,d];exact k2⟩
theorem Ln {g:XG} {ln:Nat} (h:ln<g.init.length):∃w,cZ g ⟨0,.ofNat ln⟩=some w:=by
 refine⟨⟨2,ln,1,0,g.init[ln]⟩,?_⟩;show(g.init[ln]?).map _=_
 simp_all
theorem pK {g:XG} (b:cd g=0) {ln:Nat} {r:List bT} (d:g.order[ln]?=some r):iR g (.ofNat ln)=(mE<|cZ g ((r.getLast?).getD ⟨0,.ofNat ln⟩)).write:=by
 unfold iR;rw[ew (by rw[b];rfl) d]
 grind
theorem gx {g:XG} (b:cd g=0) {ln:Nat} (h:ln<g.init.length):∃r,g.order[ln]?=some r:=cT (by rw[(dz.1 b).order];exact h)
theorem G7 {g g':XG} (b:cd g=0) (d:cd g'=0) (hold:∀id w,cZ g id=some w->cZ g' id=some w) {ln:Nat} (h:ln<g.init.length) (z:g'.order[ln]?=g.order[ln]?):iR g' (.ofNat ln)=iR g (.ofNat ln):=by
 obtain⟨r,u⟩:=gx b h;rw[pK b u,pK d (by rw[z];exact u)]
 have:∃w,cZ g ((r.getLast?).getD ⟨0,.ofNat ln⟩)=some w:=by
  cases hl:r.getLast? with
  | none=>exact Ln h
  | some x=>exact Jv (dz.1 b) u (List.mem_of_getLast? hl)
 grind
theorem H0 {g g':XG} {th pl:Int} {e:bW} {fr:bT} (h:gD g th e fr pl=(some g',0)):g'.init=g.init:=by
 obtain⟨_,tm,row,frow,_,_,_,_,_,rfl,_⟩:=kK h;rfl
theorem vA {g g':XG} {tm:Nat} {pl:Int} {e:bW} {fr:bT} (h:gD g (.ofNat (tm+1)) e fr pl=(some g',0)):∃row,g.threads[tm]?=some row/\g'.threads=g.threads.set tm (row++[e]):=by
 obtain⟨_,t2,row,frow,ht,h1,_,_,_,rfl,_⟩:=kK h
 grind [tR]
theorem Gv {g g':XG} {th pl:Int} {e:bW} {fr:bT} (h:gD g th e fr pl=(some g',0)) {ln:Nat} (hl:bd e=true->e.loc≠ .ofNat ln):g'.order[ln]?=g.order[ln]?:=by
 obtain⟨_,tm,row,frow,_,_,_,_,hp,rfl,_⟩:=kK h
 grind [tR,Am,og]
theorem Dk {g g':XG} {tm ln:Nat} {e:bW} {fr:bT} {r:List bT} (b:g.order[ln]?=some r) (h:gD g (.ofNat (tm+1)) e fr (.ofNat (r.length+1))=(some g',0)) (hw:bd e=true) (hl:e.loc= .ofNat ln):∃row,g.threads[tm]?=some row/\g'.order[ln]?=some (r++[⟨.ofNat (tm+1),.ofNat row.length⟩]):=by
 obtain⟨_,t2,row,frow,ht,h1,_,_,_,rfl,_⟩:=kK h;have:tm=t2:=by grind
 subst this;refine⟨row,h1,?_⟩;rw[tR];show(s7 g.order e _ _)[ln]?=_;unfold s7;rw[hw,hl];have hlt:=(gA.1 b).1
 simp_all
theorem pX {n:pg} {m:List Int} {g:XG} (h:H n.event.kind 4=true):dy n m g=⟨n.event,⟨0,0⟩,0,m⟩:=by unfold dy;rw[h];rfl
theorem mJ {a:sA} {v:Int} (h:a.kind=2∨a.kind=4∨a.kind=5∨a.kind=6):(bU a v).loc=a.loc/\(cD (bU a v)=true):=by
 refine⟨?_,(im h).1⟩;unfold bU;rcases h with h | h | h | h<;>rw[h]
 ·rfl
 ·exact bM (P:=fun e:bW=>e.loc=a.loc) (H v a.a) Z Z
 ·rfl
 rfl
structure Di (k:Nat) (l:List XC) (r:XM) (t:Nat) (c:XC) (row:List bW) (p:zA) (r':XM):Prop where
 code:l[t]?=some c
 rowAt:r.g.threads[t]?=some row
 err:jr k c row r.g=0
 jh:p=dy (bZ k c row).1 r.mem r.g
 add:gD r.g (.ofNat (t+1)) p.lD p.fr p.place=(some r'.g,0)
 mem:r'.mem=p.mem
theorem qd {k:Nat} {l:List XC} {r r':XM} {t:Nat} (h:fI k l r t=(some r',0)):∃c row p,Di k l r t c row p r':=by
 unfold fI at h;cases h1:l[t]? with
 | none=>rw[h1] at h;cases h
 | some c=>
 cases b:r.g.threads[t]? with
 | none=>simp_all
 | some row=>
 rw[h1,b] at h;dsimp only at h;cases h3:H (jr k c row r.g) 0 with
 | false=>rw[h3] at h;cases h
 | true=>
  rw[h3] at h;have h:yG (dy (bZ k c row).1 r.mem r.g) (.ofNat (t+1)) r.g=(some r',0):=h;unfold yG at h;cases h4:gD r.g (.ofNat (t+1)) (dy (bZ k c row).1 r.mem r.g).lD (dy (bZ k c row).1 r.mem r.g).fr (dy (bZ k c row).1 r.mem r.g).place with
  | mk o e=>
   rw[h4] at h;cases o with
   | none=>cases h
   | some g'=>
    simp only[Prod.mk.injEq,oJ_] at h;obtain⟨rfl,rfl⟩:=h;exact⟨c,row,_,h1,b,sx h3,Z,h4,Z⟩
theorem Di.step {k:Nat} {l:List XC} {r r':XM} {t:Nat} {c:XC} {row:List bW} {p:zA} (h:Di k l r t c row p r'):fI k l r t=(some r',0):=by
 unfold fI;rw[h.code,h.rowAt];dsimp only;rw[h.err,<-h.jh];show yG p _ _=_;unfold yG;rw[h.add];dsimp only;obtain⟨m,g⟩:=r';have:=h.mem
 simp_all
theorem nu {k:Nat} {c:XC} {row:List bW} {g:XG} (h:jr k c row g=0):(bZ k c row).2=0/\(bZ k c row).1.fin=0/\row.length<14/\fx (bZ k c row).1 g=false:=by
 unfold jr at h;cases h1:H (bZ k c row).2 0 with
 | false=>
  rw[h1] at h;have h:(bZ k c row).2=0:=h;rw[h] at h1;cases h1
 | true=>
 rw[h1] at h;cases d:H (bZ k c row).1.fin 0 with
 | false=>rw[d] at h;cases h
 | true=>
 rw[d] at h;cases h3:cq (.ofNat row.length) 14 with
 | false=>rw[h3] at h;cases h
 | true=>
 rw[h3] at h;cases h4:fx (bZ k c row).1 g with
 | true=>rw[h4] at h;cases h
 | false=>exact⟨sx h1,sx d,bk (b:=14) h3,Z⟩
theorem jT {n:pg} {g:XG} (h:fx n g=false) (hk:H n.event.kind 4=false):∃ln:Nat,iE n= .ofNat ln/\ln<g.init.length:=by
 unfold fx at h;rw[hk] at h;have h:(bif cq (iE n) 0 then true else bf (cq (iE n) (.ofNat g.init.length)))=false:=h;cases h1:cq (iE n) 0 with
 | true=>rw[h1] at h;cases h
 | false=>
  rw[h1] at h;obtain⟨ln,hl⟩:=iF h1;rw[hl] at h⊢;exact⟨ln,Z,bk<|bl h⟩
theorem rH {g g':XG} {th:Int} {e:bW} {fr:bT} {ln:Nat} (h:gD g th e fr (.ofNat (bV g (.ofNat ln)).length)=(some g',0)) (hl:ln<g.init.length):bd e=true:=by
 obtain⟨b,_,_,_,_,_,_,_,hb,_,_⟩:=kK h;unfold cW at hb;obtain⟨o,d⟩:=gx b hl;cases hw:bd e with
 | true=>rfl
 | false=>rw[hw,ew (by rw[b];rfl) d] at hb;cases hb
structure zB (k:Nat) (c:XC) (row:List bW) (r:XM) (p:zA):Prop where
 fits:lU k c (row++[p.lD])
 look:H (bZ k c row).1.event.kind 4=false->∃ln:Nat,ln<r.g.init.length/\iE (bZ k c row).1= .ofNat ln/\p.lD.loc= .ofNat ln/\p.lD.kind≠4
 cases:(p.lD.kind=4/\p.mem=r.mem/\p.place=0)∨∃ln:Nat,ln<r.g.init.length/\p.lD.loc= .ofNat ln/\p.lD.kind≠4/\((bd p.lD=false/\p.mem=r.mem/\p.place=0)∨(bd p.lD=true/\p.mem=r.mem.set ln p.lD.write/\p.place= .ofNat (bV r.g (.ofNat ln)).length))
theorem FO {e:bW} {n:Int} (h:H e.kind n=false):e.kind≠n:=fun hh=>by rw[hh,dL] at h;cases h
theorem FW {k:Nat} {c:XC} {row:List bW} {r:XM} {th:Int} {g':XG} (h:jr k c row r.g=0) (b:gD r.g th (dy (bZ k c row).1 r.mem r.g).lD (dy (bZ k c row).1 r.mem r.g).fr (dy (bZ k c row).1 r.mem r.g).place=(some g',0)):zB k c row r (dy (bZ k c row).1 r.mem r.g):=by
 obtain⟨h1,h2,h3,h4⟩:=nu h;rcases pO h1 with ⟨e,he,hf,hr⟩ | ⟨a,E,hk,hf⟩ | ⟨n,G⟩
 ·have key:∀p:zA,dy (bZ k c row).1 r.mem r.g=p->zB k c row r p:=by
   rw[he] at h4 b⊢;intro p hp;rw[hp] at b;dsimp only at h4;cases h5:H e.kind 4 with
   | true=>
    rw[pX h5] at hp;subst hp;exact⟨hf,fun hh=>(by simp_all),.inl ⟨M6 h5,Z,Z⟩⟩
   | false=>
    obtain⟨ln,hl,d⟩:=jT h4 h5;have A:e.loc= .ofNat ln:=hl;unfold dy at hp;rw[hl] at hp;dsimp only at hp;rw[h5,show H ia.kind 0=true from Z] at hp;simp only[show bf true=false from Z,cond_false] at hp;cases C:H e.kind 1 with
    | true=>
     grind [cD]
    | false=>
     rw[C] at hp;simp only[show bf false=true from Z,cond_true] at hp;subst hp;exact⟨hf,fun _=>⟨ln,d,by rw[he];exact hl,A,FO h5⟩,.inr ⟨ln,d,A,FO h5,.inr ⟨rH b d,Z,Z⟩⟩⟩
  exact key _ Z
 ·have key:∀p:zA,dy (bZ k c row).1 r.mem r.g=p->zB k c row r p:=by
   rw[E] at h4 b⊢;intro p hp;rw[hp] at b;have B:H a.kind 0=false:=by rcases hk with e | e | e | e<;>rw[e]<;>rfl
   have K:iE ⟨j0,a,0⟩=a.loc:=by unfold iE;dsimp only;rw[B];rfl
   obtain⟨ln,hl,d⟩:=jT h4 Z;unfold dy at hp;rw[hl] at hp;dsimp only at hp;rw[B,show H j0.kind 4=false from Z] at hp;simp only[show bf false=true from Z,cond_true,cond_false] at hp;have w:∀v,(bU a v).loc= .ofNat ln:=fun v=>by rw[(mJ hk).1,<-K,hl]
   have z:∀v,(bU a v).kind≠4:=fun v L=>by
    have h5:=(im (v:=v) hk).1;unfold cD at h5;rw[L] at h5;cases h5
   generalize hv:(r.mem[(Int.ofNat ln).toNat]?).getD 0=v at hp;have u:iE (bZ k c row).1= .ofNat ln:=by rw[E];exact hl
   cases C:H (bU a v).kind 1 with
   | true=>
    rw[C] at hp;simp only[show bf true=false from Z,cond_false] at hp;subst hp;refine⟨hf v,fun _=>⟨ln,d,u,w v,z v⟩,.inr ⟨ln,d,w v,z v,.inl ⟨?_,Z,Z⟩⟩⟩
    grind [bd,M6]
   | false=>
    rw[C] at hp;simp only[show bf false=true from Z,cond_true] at hp;subst hp;exact⟨hf v,fun _=>⟨ln,d,u,w v,z v⟩,.inr ⟨ln,d,w v,z v,.inr ⟨rH b d,Z,Z⟩⟩⟩
  exact key _ Z
 rw[G] at h4 b;exfalso;obtain⟨ln,hl,d⟩:=jT h4 Z;obtain⟨F,_,_,_,_,_,_,_,hp,_,_⟩:=kK b;have hp:(!H (.ofNat (bV r.g<|iE ⟨j0,ia,n⟩).length) 0)=false:=hp;obtain⟨q,hq⟩:=gx F d;rw[hl,ew (by rw[F];rfl) hq] at hp;cases hp
theorem fz.step {k:Nat} {l:List XC} {r r':XM} {t:Nat} (h:fz k l r) (Q:fI k l r t=(some r',0)):fz k l r'/\r'.g.init=r.g.init:=by
 obtain⟨c,row,p,hp⟩:=qd Q;have hadd:=hp.add;rw[hp.jh] at hadd;have hok:=FW hp.err hadd;rw[<-hp.jh] at hok hadd;obtain⟨tm,row',ht,L,w,d,aa,_,_,hold,_⟩:=Gu hadd;have hi:=H0 hadd;obtain⟨u,z,A⟩:=vA hadd;rw[hp.rowAt] at z;cases z;have hlen:r'.g.threads.length=l.length:=by rw[A,List.length_set];exact h.len
 have G:tm=t:=by grind
 subst G;rw[hp.rowAt] at L;cases L;refine⟨⟨d,hlen,?_,fun i b=>?_,fun M R u h1 B=>?_⟩,hi⟩
 ·rw[hp.mem,hi,<-h.mem];rcases hok.cases with ⟨_,e,_⟩ | ⟨ln,_,_,_,⟨_,e,_⟩ | ⟨_,e,_⟩⟩<;>rw[e]
  rw[List.length_set]
 ·rw[hi] at b;rw[hp.mem];have same:(bd p.lD=true->p.lD.loc≠ .ofNat i)->iR r'.g (.ofNat i)=iR r.g (.ofNat i):=fun hw=>G7 w d hold b (Gv hadd hw)
  rcases hok.cases with ⟨e1,e,_⟩ | ⟨ln,C,E,_,⟨e1,e,_⟩ | ⟨hw,e,epl⟩⟩
  ·rw[e,same (fun hw=>by unfold bd at hw;rw[e1] at hw;cases hw)];exact h.last i b
  ·rw[e,same (fun hw=>by simp_all)];exact h.last i b
  rw[e]
  by_cases F:ln=i
  ·subst F;rw[List.getElem?_set_self (by rw[h.mem];exact C)];obtain⟨q,hq⟩:=gx w C;have K:p.place= .ofNat (q.length+1):=by rw[epl,ew (by rw[w];rfl) hq];rfl
   rw[K] at hadd;obtain⟨ab,h3,ho⟩:=Dk hq hadd hw E;rw[hp.rowAt] at h3
   grind [pK,List.getLast?_append,mE]
  rw[List.getElem?_set_ne F,same (fun _=>by grind)];exact h.last i b
 rw[A] at B
 by_cases e:tm=M
 ·subst e;rw[List.getElem?_set_self (gA.1 hp.rowAt).1] at B;rw[hp.code] at h1;cases h1;cases B;exact hok.fits
 rw[List.getElem?_set_ne e] at B;exact h.fits M R u h1 B
theorem fz.start {k:Nat} {l:List XC} {init:List Int} (hl:l.length<=4) (hi:init.length<=6) (hf:∀c∈l,jt k c=true):fz k l ⟨init,⟨init,List.replicate l.length [],List.replicate l.length [],List.replicate init.length []⟩⟩:=by
 have hw:∀n t,fu (List.replicate n []) t= []:=by
  intro n;induction n with
  | zero=>intro t;rfl
  | succ n ih=>grind [ef,fu]
 have ho:∀n t,ij (List.replicate n []) t= []:=by
  intro n;induction n with
  | zero=>intro t;rfl
  | succ n ih=>grind [eM,ij]
 have d:dD ⟨init,List.replicate l.length [],List.replicate l.length [],List.replicate init.length []⟩:=by
  refine⟨by simpa using hl,hi,fun i x hx=>?_,by simp,by simp,fun i x f hx hf=>?_,?_⟩
  ·grind
  ·grind
  simp_all
 have hc:=dz.2 d;refine⟨hc,by simp,Z,fun i b=>?_,fun t c row h1 h2=>?_⟩
 ·have hq:(List.replicate init.length ([]:List bT))[i]?=some []:=by
   simp_all
  rw[pK hc hq];show init[i]?=some (mE ((init[i]?).map fun v=>(⟨2,i,1,0,v⟩:bW))).write;rw[gC b];rfl
 grind [II]
def ga (k:Nat) (l:List XC) (r:XM) (p:Int):Option XM:=
 bif cq p 1 then none else bif cq (.ofNat l.length) p then none else bif H (fI k l r (p.toNat-1)).2 0 then(fI k l r (p.toNat-1)).1 else none
def gV (k:Nat) (l:List XC) (s:XM×List Int) (p:Int):XM×List Int:=match ga k l s.1 p with | some r=>(r,s.2++[p]) | none=>s
def dF (k:Nat) (l:List XC) (s:XM×List Int) (ps:List Int):XM×List Int:=ps.foldl (gV k l) s
theorem nU {k:Nat} {l:List XC} {r r':XM} {p:Int} (h:ga k l r p=some r'):∃t:Nat,p= .ofNat (t+1)/\t<l.length/\fI k l r t=(some r',0):=by
 unfold ga at h;cases h1:cq p 1 with
 | true=>rw[h1] at h;cases h
 | false=>
 rw[h1] at h;cases b:cq (.ofNat l.length) p with
 | true=>rw[b] at h;cases h
 | false=>
 rw[b] at h;obtain⟨t,rfl⟩:=sj h1;simp only[cond_false,show(Int.ofNat (t+1)).toNat-1=t from Z] at h;cases h3:H (fI k l r t).2 0 with
 | false=>rw[h3] at h;cases h
 | true=>
  rw[h3] at h;exact⟨t,Z,by have:=bz b;omega,Prod.ext h<|sx h3⟩
theorem fz.ga {k:Nat} {l:List XC} {r r':XM} {p:Int} (h:fz k l r) (b:ga k l r p=some r'):fz k l r'/\r'.g.init=r.g.init:=by
 obtain⟨t,_,_,h1⟩:=nU b;exact h.step h1
theorem fz.si {k:Nat} {l:List XC}:∀{ps:List Int} {s:XM×List Int},fz k l s.1->fz k l (dF k l s ps).1/\(dF k l s ps).1.g.init=s.1.g.init
 | [],s,h=>⟨h,Z⟩
 | p::ps,s,h=>by
  show fz k l (dF k l (gV k l s p) ps).1/\(dF k l (gV k l s p) ps).1.g.init=s.1.g.init;unfold gV;cases b:Go.Ev.ga k l s.1 p with
  | none=>exact fz.si h
  | some r=>
   obtain⟨h1,d⟩:=h.ga b;obtain⟨h3,h4⟩:=fz.si (ps:=ps) (s:=(r,s.2++[p])) h1;exact⟨h3,by rw[h4,d]⟩
theorem oD {k:Nat} {l:List XC} {s:XM×List Int} {ps:List Int} {i:Nat} {p:Int} (h:ps[i]?=some p):dF k l s (ps.take (i+1))=gV k l (dF k l s<|ps.take i) p:=by
 grind [dF,List.take_add_one]
theorem Hl {k:Nat} {l:List XC} {s:XM×List Int} {ps:List Int} {i:Nat} (h:ps.length<=i):dF k l s (ps.take i)=dF k l s ps:=by rw[tL_ h]
theorem D.cA {O:N} {K:KP} {M L:Own} (h:D O K (M++L)):∃b,KP.le K b/\(∀e∈M,b e.1 e.2)/\D O b L:=⟨K.m7 M,KP.dI _ _,fun e he=>.inr he,h.keeps⟩
theorem Fw {nx:Nat->List Nat} {n:Nat} (b:∀i,i<n->∀to∈nx i,to<n):∀{f:Nat} {s:DS} {out:List Nat},Od nx n s->Be nx f s=some out->out.length<=s.out.length+iS nx n s
 | 0,_,_,_,h=>by cases h
 | f+1,s,out,hw,h=>by
  unfold Be at h;cases hl:s.path.getLast? with
  | none=>
   simp_all
  | some a=>
   rw[hl] at h;dsimp only at h;cases d:l7 nx s a with
   | none=>rw[d] at h;cases h
   | some s'=>
    rw[d] at h;obtain⟨h1,_,h3⟩:=pA hw b hl d;have:=Fw b h1 h;omega
theorem qF {k:Nat} {c:XC} (b:eS k c) {out:List Nat} (h:fj c=some out):out.length<=16001:=by
 have:=Fw (sY b) (zR b.pos) (show Be _ _ _=some out from h);rw[I5] at this;have h1:(BM c.ins.length).out.length=0:=rfl;have h2:=C0 (c:=c);have h3:=b.len;omega
theorem oL {k:Nat} {c:XC} {s:TS} {x:XI} (hx:c.ins[s.at_]?=some x) (h:(cj k c s).2=true):(cj k c s).1.at_∈dw c s.at_:=by
 obtain⟨P,w⟩:∃P:TS×Bool->Prop,P=fun r=>r.2=true->r.1.at_∈dw c s.at_:=⟨_,Z⟩
 have z:dw c s.at_=(ft x s.at_).map Int.toNat:=by unfold dw;rw[hx]
 have u:∀r:TS×Bool,r.2=false->P r:=fun r h1=>by simp_all
 have d:(H x.kind 10=false)->(H x.kind 12=false)->(H x.kind 13=false)->∀r:TS×Bool,r.1.at_=s.at_+1->P r:=fun h0 h2 h3 r h1=>by
  grind [ft]
 have ne:∀(a b:Int),H x.kind a=true->a≠b->H x.kind b=false:=fun a b h h'=>by
  rw[dK,decide_eq_true_iff] at h;rw[dK,decide_eq_false_iff_not,h];exact h'
 have:P (cj k c s):=by
  unfold cj;rw[hx];dsimp only;unfold fZ
  refine eZ _ (fun e=>d (ne _ _ e (by decide)) (ne _ _ e (by decide)) (ne _ _ e (by decide)) _ Z) fun e1=>eZ _ (fun e=>d (ne _ _ e (by decide)) (ne _ _ e (by decide)) (ne _ _ e (by decide)) _ Z) fun e3=>eZ _ (fun e=>d (ne _ _ e (by decide)) (ne _ _ e (by decide)) (ne _ _ e (by decide)) _ Z) fun e7=>
   eZ _ (fun e=>bM _ (u _ Z) (d (ne _ _ e (by decide)) (ne _ _ e (by decide)) (ne _ _ e (by decide)) _ Z)) fun e8=>eZ _ (fun e=>bM _ (u _ Z) (d (ne _ _ e (by decide)) (ne _ _ e (by decide)) (ne _ _ e (by decide)) _ Z)) fun e9=>
   eZ _ (fun e=>?_) fun aa=>eZ _ (fun e=>bM _ ?_ (d (ne _ _ e (by decide)) (ne _ _ e (by decide)) (ne _ _ e (by decide)) _ Z)) fun ab=>eZ _ (fun _=>u _ Z) fun ac=>eZ _ (fun _=>u _ Z) fun am=>u _ Z
  ·rw[w];intro _;rw[z];unfold ft;rw[e];simp
  grind [ft]
 simp_all
theorem qP {k:Nat} {c:XC} {s:TS}:(cj k c s).1.br.length=s.br.length/\(cj k c s).1.events.length<=s.events.length+1:=by
 obtain⟨P,hP⟩:∃P:TS×Bool->Prop,P=fun r=>r.1.br.length=s.br.length/\r.1.events.length<=s.events.length+1:=⟨_,Z⟩
 have h0:∀r:TS×Bool,r.1.br=s.br->r.1.events=s.events->P r:=fun r h1 b=>by simp_all
 have h1:∀(r:TS×Bool) (e:bW),r.1.br=s.br->r.1.events=s.events++[e]->P r:=fun r e h1 b=>by simp_all
 have:P (cj k c s):=by
  unfold cj;cases hx:c.ins[s.at_]? with
  | none=>exact h0 _ Z Z
  | some x=>
   dsimp only;unfold fZ
   grind
 simp_all
structure Ra (c:XC) (s:TS):Prop where
 at_:s.at_<c.ins.length
 br:s.br.length=c.br.toNat
 events:s.events.length<=1000000
theorem results_none {P:Program} {fn:Func} {t:PT V} {O:N} (b:fn.results.toList= []):eX P fn t O=some (.tuple []):=by
 unfold eX;rw[b];rfl
theorem BO {P:Program} {fn:Func} {R:V->N->Prop} {t:PT V} {O:N} (b:fn.results.toList= []) (d:R (.tuple []) O):zT P fn R .normal t O:=⟨.inl Z,_,results_none b,d⟩
structure zC (c:XC) (out:List Nat) (s:TS):Prop where
 at_:s.at_∈out
 br:s.br.length=c.br.toNat
theorem EP {k:Nat} {c:XC} {s:TS} (h:(cj k c s).2=false):(cj k c s).1.at_=s.at_:=by
 obtain⟨P,hP⟩:∃P:TS×Bool->Prop,P=fun r=>r.2=false->r.1.at_=s.at_:=⟨_,Z⟩
 have hy:∀r:TS×Bool,r.2=true->P r:=fun r h1=>by simp_all
 have b:∀r:TS×Bool,r.1.at_=s.at_->P r:=fun r h1=>by simp_all
 have:P (cj k c s):=by
  unfold cj;cases hx:c.ins[s.at_]? with
  | none=>exact b _ Z
  | some x=>
   dsimp only;unfold fZ
   grind
 simp_all
theorem zC.lt {c:XC} {out:List Nat} {s:TS} (h:zC c out s) (b:fD (dw c) c.ins.length out):s.at_<c.ins.length:=b.lt _ h.at_
theorem zC.step {k:Nat} {c:XC} {out:List Nat} {s:TS} (h:zC c out s) (b:fD (dw c) c.ins.length out):zC c out (cj k c s).1:=by
 refine⟨?_,by rw[qP.1];exact h.br⟩;cases hb:(cj k c s).2 with
 | false=>rw[EP hb];exact h.at_
 | true=>
  obtain⟨x,hx⟩:=cT (h.lt b);obtain⟨q,hq⟩:=gO_ h.at_;obtain⟨q',_,aa⟩:=b.ua q _ hq _ (oL hx hb)
  grind
theorem DY {k:Nat} {c:XC} {out:List Nat} (b:fD (dw c) c.ins.length out):∀{f:Nat} {s:TS},zC c out s->zC c out (tD k c f s)/\(tD k c f s).events.length<=s.events.length+f
 | 0,s,h=>⟨h,nR_ _⟩
 | f+1,s,h=>by
  have h1:=h.step (k:=k) b;have h2:=(qP (k:=k) (c:=c) (s:=s)).2;obtain⟨h3,h4⟩:=DY (k:=k) b (f:=f) h1;show zC c out (bif (cj k c s).2 then tD k c f (cj k c s).1 else(cj k c s).1)/\(bif (cj k c s).2 then tD k c f (cj k c s).1 else(cj k c s).1).events.length<=_
  grind
theorem FE {k:Nat} {c:XC} {j:Nat} {s:TS} (hj:1<=j) (h:(cj k c s).2=true):tD k c j s=tD k c (j-1) (cj k c s).1:=by
 obtain⟨i,rfl⟩:∃i,j=i+1:=⟨j-1,by omega⟩;show(bif (cj k c s).2 then _ else _)=_;rw[h];rfl
theorem IM {k:Nat} {c:XC} {j:Nat} {s:TS} (hj:1<=j) (h:(cj k c s).2=false):tD k c j s=(cj k c s).1:=by
 obtain⟨i,rfl⟩:∃i,j=i+1:=⟨j-1,by omega⟩;show(bif (cj k c s).2 then _ else _)=_;rw[h];rfl
theorem zc {k:Nat} {c:XC} {out:List Nat} {s:TS} {x:XI} {q:Nat} (b:fD (dw c) c.ins.length out) (hx:c.ins[s.at_]?=some x) (hq:out[q]?=some s.at_) (h:(cj k c s).2=true):∃q',q'<q/\out[q']?=some (cj k c s).1.at_:=b.ua q _ hq _ (oL hx h)
def oK (c:XC):TS:=⟨0,List.replicate c.br.toNat 0,[],0,0,false⟩
theorem CQ {c:XC} {out:List Nat} (b:fD (dw c) c.ins.length out):zC c out (oK c):=⟨b.zero,List.length_replicate ..⟩
theorem Gz {k:Nat} {c:XC} {out:List Nat} (d:fj c=some out) (b:fD (dw c) c.ins.length out):zC c out (jl k c)/\(jl k c).events.length<=out.length:=by
 obtain⟨h1,u⟩:=DY (k:=k) b (f:=gT c) (CQ b);have:gT c=out.length:=by unfold gT;rw[d];rfl
 refine⟨h1,?_⟩;have h3:(oK c).events.length=0:=rfl;rw[h3,this] at u;show(tD k c (gT c)<|oK c).events.length<=_;rw[this];omega
theorem ur {k:Nat} {c:XC} (hc:eS k c) {out:List Nat} (d:fD (dw c) c.ins.length out) {s:TS} (h:zC c out s) (u:gM c s) (w:s.asks=true) (v:Int):zC c out (eF k c s v):=by
 refine⟨?_,by show(s.br.set _ _).length=_;rw[List.length_set];exact h.br⟩;obtain⟨x,hx,hk⟩:=u w;obtain⟨q,hq⟩:=gO_ h.at_
 have:s.at_+1∈dw c s.at_:=by
  unfold dw;rw[hx];dsimp only;unfold ft;rcases hk with hk | hk | hk | hk<;>rw[hk]<;>show s.at_+1∈[s.at_+1]<;>simp
 obtain⟨q',_,b⟩:=d.ua q _ hq _ this;exact gB_ b
theorem Dp {k:Nat} {c:XC} (d:eS k c) {out:List Nat} (u:fj c=some out) (b:fD (dw c) c.ins.length out) {s:TS} (h:zC c out s) (w:gM c s) (z:s.asks=true) (v:Int):
  zC c out (ea k c s v)/\(ea k c s v).events.length<=s.events.length+1+out.length/\(ea k c s v).asked=s.asked+1:=by
 obtain⟨h1,h2⟩:=DY (k:=k) b (f:=gT c) (ur d b h w z v);have hf:gT c=out.length:=by unfold gT;rw[u];rfl
 refine⟨h1,?_,(nC k c (gT c)<|eF k c s v).2⟩
 grind [eF,ea]
theorem pZ {es:List bW} {i:Nat} {e:bW} (h:es[i]?=some e):cP (es.take (i+1))=cP (es.take i)++(bif cD e then [e.read] else []):=by
 grind [List.take_add_one,cP]
theorem uc (es:List bW):(cP es).length<=es.length:=by grind [cP]
theorem JW {k:Nat} {c:XC} {A:List Int} {i:Nat} {v:Int} {s:TS} (h:A[i]?=some v) (b:s.asks=true):jJ k c (A.drop i) s=jJ k c (A.drop (i+1)) (ea k c s v):=by
 rw[bX h];show(bif s.asks then _ else _)=_;rw[b];rfl
theorem LU {k:Nat} {c:XC} {A:List Int} {i:Nat} {v:Int} {s:TS} (h:A[i]?=some v) (b:s.asks=false):jJ k c (A.drop i) s=s:=by
 rw[bX h];show(bif s.asks then _ else _)=_;rw[b];rfl
theorem JV {k:Nat} {c:XC} {A:List Int} {i:Nat} {s:TS} (h:A.length<=i):jJ k c (A.drop i) s=s:=by rw[ej h];rfl
def Hd (n:pg):List V:=ints n.event.ints++ints n.ask.ints++[.int .i64 n.fin]
def oY (m:List Int) (x0 x1 x2 x3 x4 x5:Int):Prop:=[x0,x1,x2,x3,x4,x5]=m++List.replicate (6-m.length) 0
abbrev c6 (x0 x1 x2 x3 x4 x5:Int) (a b c d:V):List V:=[.int .i64 x0,.int .i64 x1,.int .i64 x2,.int .i64 x3,.int .i64 x4,.int .i64 x5,a,b,c,d]
abbrev Bd:List V:=[.int .i64 0,.int .i64 0,.int .i64 0,.int .i64 0,.int .i64 0,.int .i64 0,.av,.av,.av,.av]
theorem oY.le {m:List Int} {b d u w z A:Int} (h:oY m b d u w z A):m.length<=6:=by
 have:=congrArg List.length h;rw[lA_,List.length_replicate] at this;have e: [b,d,u,w,z,A].length=6:=rfl;omega
theorem oY.at_ {m:List Int} {u w z A B C:Int} (h:oY m u w z A B C) {a b c d:V} {ln:Nat} (hl:ln<m.length):∃y,m[ln]?=some y/\nth (c6 u w z A B C a b c d) (0+ln*1)=some (.int .i64 y):=by
 have h6:=h.le;obtain⟨y,hy⟩:=cT hl;have: [u,w,z,A,B,C][ln]?=some y:=by rw[show [u,w,z,A,B,C]=_ from h,gL_ hl];exact hy
 refine⟨y,hy,?_⟩;rw[eU,Nat.mul_one,nA_]
 grind
theorem oY.set {m:List Int} {u w z A B C:Int} (h:oY m u w z A B C) {a b c d:V} {ln:Nat} (hl:ln<m.length) (v:Int):∃G K L M Q y5,dM [.int .i64 v] (c6 u w z A B C a b c d) (0+ln*1)=c6 G K L M Q y5 a b c d/\oY (m.set ln v) G K L M Q y5:=by
 have h6:=h.le;have E: [u,w,z,A,B,C].set ln v=m.set ln v++List.replicate (6-(m.set ln v).length) 0:=by rw[show [u,w,z,A,B,C]=_ from h,List.set_append_left _ _ hl,List.length_set]
 have F:ln<6:=by omega
 match ln,F with
 | 0,_=>exact⟨v,w,z,A,B,C,Z,E⟩
 | 1,_=>exact⟨u,v,z,A,B,C,Z,E⟩
 | 2,_=>exact⟨u,w,v,A,B,C,Z,E⟩
 | 3,_=>exact⟨u,w,z,v,B,C,Z,E⟩
 | 4,_=>exact⟨u,w,z,A,v,C,Z,E⟩
 | 5,_=>exact⟨u,w,z,A,B,v,Z,E⟩
theorem tS {α:Type} {K:KP} {m b e n:Nat} {R:α->List V->Prop} (h:K b (.row (List.replicate n .av) e false)) (hn:n<=1000000):bF K 1 (RL K m R) (List.replicate n []) (.slice b 0 n (.known n)):=by
 refine .inr ⟨b,0,_,_,e,false,by rw[List.length_replicate],.inr ⟨_,Z,by simp_all⟩,h,by simp,by grind,fun i x hx=>?_⟩;have hi:i<n:=by grind
 have hx':=eR_ (gB_ hx);subst hx';refine⟨.av,?_,.inl ⟨Z,Z⟩⟩
 grind
theorem kr {k:Nat} {l:List XC} {r:XM} {t:Nat} {c:XC} {row:List bW} (h1:l[t]?=some c) (b:r.g.threads[t]?=some row) {e:Int} (h:jr k c row r.g=e) (he:H e 0=false):fI k l r t=(none,e):=by
 unfold fI;rw[h1,b];dsimp only;rw[h,he];rfl
theorem nP {k:Nat} {l:List XC} {r:XM} {t:Nat} {c:XC} {row:List bW} (h1:l[t]?=some c) (b:r.g.threads[t]?=some row) (h:jr k c row r.g=0) {p:zA} (hp:dy (bZ k c row).1 r.mem r.g=p):fI k l r t=yG p (.ofNat (t+1)) r.g:=by
 unfold fI;rw[h1,b];dsimp only;rw[h,hp];rfl
end Go.Ev
namespace Go.Ev
variable [Env]
theorem ph {P:Program} {ev:Operand->Option V} {t e w n:Nat} {k k':IntKind} {z:List V} {lo co:Operand} (d:P.underlying t=some (.slice e)) (hw:(P.info? e).map (·.bytes)=some w) (u:(fw P e).bind df=some z)
  (b:((P.info? e).any fun j=>Nat.beq (dn z) j.size && Nat.ble 1 j.size)=true) (hl:ev lo=some (.int k (.ofNat n))) (A:ev co=some (.int k' (.ofNat n))) (hn:w*n<=1048576) (aa:n<=1048576):
  fP P ev (.makeSlice t lo co)=some (.row (fl z n) e false,.slice n n):=by
 obtain⟨j,hj,rfl⟩:=oM_.1 hw;rw[hj] at b;simp only[Option.any_some,bA_] at b;simp only[fP,d,hl,A,hj,u];rw[b.1,b.2,show Nat.ble n n=true by simp_all,show Nat.ble (j.bytes*n) 1048576=true by simp_all,show Nat.ble n 1048576=true by simp_all];rfl
theorem xF {P:Program} {G:Cx} {t:PT V} {O:N} {ops:Array Oper} {o:Oper} {i k b e n:Nat} {cs:List V} (hi:ops[i]?=some o) (hw:bH ops t o=some true) (hd:o.dst=some k) (hg:t.get k=some (.slice b 0 n (.known n))) (hk:kindOf P o.op= .alloc) (ha:fP P (bp G t) o.op=some (.row cs e false,.slice n n)) (hm:O.m.get b=some (.row cs e false)) (hb:eB.beqL cs cs=true):ku P G ops t O i=true:=by
 unfold ku
 simp_all
theorem vX (n:Nat):eB.beqL (List.replicate n V.av) (List.replicate n V.av)=true:=by
 induction n with
 | zero=>rfl
 | succ n ih=>rw[List.replicate_succ];exact cK Z ih
end Go.Ev
namespace Go.Ev
variable [Env]
open Go.Proofs
set_option maxRecDepth 4000
set_option maxHeartbeats 8000000
theorem DB {n:Nat} {T A B:Rn} (h:bB n T=bB n A):bB n (mN n T B)=bB n (mN n A B):=by
 refine cL fun a c u _=>?_
 unfold mN;rw[Bool.eq_iff_iff];simp only[List.any_eq_true,List.mem_range,bA_];constructor
 ·rintro ⟨b,hb,h1,d⟩;exact⟨b,hb,(nJ h u hb).symm.trans h1,d⟩
 rintro ⟨b,hb,h1,d⟩;exact⟨b,hb,(nJ h u hb).trans h1,d⟩
theorem NB {G:Cx} (hG:Plain G) {K:KP} {n:Nat} (hn:n<=64) {A B:Rn} {v:V} (hs:bF K 2 (HZ K n) [A,B] v) {O:N} {L:Own} (ar:D O K L):
  a8 Tryz.prog G 201 [v] O fun u O'=>∃E b,KP.le K E/\u= .agg [.int .i64 (.ofNat n),.slice b 0 n (.known n)]/\D O' E ((b,.row ((bB n<|mN n A B).map gU) 194 false)::L):=by
 have h0x:([A,B]:List Rn)[0]?=some A:=rfl;refine QO hG Tryz.func201 Z<|Qg 2 Z<|kp ar Z (RD (cs:=[J,.av])) (fun O b1 ar=>?_);refine O4 6 Z<|bc Z (Rx Z Z Z) (fun _=>Z) (As hG hn hs (Nat.succ_pos _) ar) (fun O ar=>?_);refine Y Z (dq Z) Z<|O5 8 Z<|Rr (e:=149) (m:=2) hs h0x Z Z Z Z (fun b7 bo aa br ab=>?_);have hr13':=ab;obtain⟨b8,rfl,ac⟩:=hr13';refine Y Z (RF ar aa Z Z) Z<|fY ar Z (cm (e:=149) (m:=2) (z:=[J,.av]) (cs:=[_,_]) U U U U<|bj Z Z Z Z bO) (fun _=>Z) (fun O b2 ar=>?_);obtain⟨E,d,F,ar⟩:=D.cA (M:=[_]) ar;have hs15:=F5 (n:=n) (F _<|mS_ ..) (ac.mono d fun _ _ h=>h);replace hs:=hs.mono d fun _ _ h=>h.mono d
 refine bR Z (Rx Z Z Z) (fun _=>Z) (EB hG hn hs15 (Nat.succ_pos _) ar) ?_;rintro _ O ⟨b3,rfl,ar⟩;refine kp ar Z (RD (cs:=[J,.av])) (fun O b4 ar=>?_);refine bE ar Z (RG Z Z Z ar.g0 (m:=2) Z Z (cells':=[_,_]) Z) Z (fun O ar=>?_);refine O4 5 Z ?_;replace ar:=ar.pull (.there<|cX.here (X:=[_]));refine PD 4 Z (bh (rg 4 4++rg 17 50) (fun j t O=>∃(k bq:Nat) (T:Rn),j+k=2/\((k=1/\bB n T=bB n A)∨(k=2/\bB n T=bB n (mN n A B)))/\t.get 4=some (.int .i64 (.ofNat k))/\D O E ((bq,.row ((bB n T).map gU) 194 false)::(b4,.row [.int .i64 (.ofNat n),.slice bq 0 n (.known n)] 149 false)::(b1,.row [J,.av] 149 false)::L)) (1) ⟨1,b3,pR [A],Z,.inl ⟨Z,cL fun a b _ _=>by unfold pR;simp⟩,Z,ar⟩ ?_);clear ar;intro j5 t O aq hI;obtain⟨k,bq,T,b9,hT,a3,ar⟩:=hI;obtain⟨oo,rfl⟩:=aq.q1 a3 Z;refine Pz 5 Z<|Y Z (RC hs Z Z Z (e:=149) Z) Z<|Qi 3 Z<|aF Z (fun Q=>?_) (fun Q=>?_)
 ·refine Oj 6 Z ?_;have hk2:=bk (a:=k) (b:=2) Q;obtain⟨a4,a5⟩:k=1/\bB n T=bB n A:=by rcases hT with h | h;exact h;omega
  have ba:([A,B]:List Rn)[k]?=some B:=by rw[a4];rfl
  refine QY ar 2 [0,1] Z Z<|bR Z (Rx Z Z Z) (fun _=>Z) (xl hG hn ar) ?_;rintro _ O ⟨b5,rfl,ar⟩;refine kp ar Z (RD (cs:=[J,.av])) (fun O b6 ar=>?_);refine bE ar Z (RG Z Z Z ar.g0 (m:=2) Z Z (cells':=[_,_]) Z) Z (fun O ar=>?_);refine O4 5 Z ?_;rw[<-DA (A:=T) (B:=B)] at ar;refine PD 4 Z (bh ([6,7]++rg 26 40) (fun j t O=>∃(i:Nat),j+i=n/\t.get 6=some (.int .i64 (.ofNat i))/\D O E ((b6,.row [.int .i64 (.ofNat n),.slice b5 0 n (.known n)] 149 false)::(b5,.row ((bB n<|iN n T B i 0).map gU) 194 false)::(bq,.row ((bB n T).map gU) 194 false)::(b4,.row [.int .i64 (.ofNat n),.slice bq 0 n (.known n)] 149 false)::(b1,.row [J,.av] 149 false)::L)) (n) ⟨0,Z,Z,ar⟩ ?_);clear ar;intro j9 t O aq hI;obtain⟨i,ca,bb,ar⟩:=hI;obtain⟨oo,rfl⟩:=aq.q1 bb Z;refine Qn ar 9 [0,3] Z Z<|aF Z (fun C=>?_) (fun C=>?_)
  ·refine O1 9 Z (aM (bh ([7]++rg 32 34) (fun j t O=>∃(q:Nat),j+q=n/\t.get 7=some (.int .i64 (.ofNat q))/\D O E ((b6,.row [.int .i64 (.ofNat n),.slice b5 0 n (.known n)] 149 false)::(b5,.row ((bB n<|iN n T B i q).map gU) 194 false)::(bq,.row ((bB n T).map gU) 194 false)::(b4,.row [.int .i64 (.ofNat n),.slice bq 0 n (.known n)] 149 false)::(b1,.row [J,.av] 149 false)::L)) (n) ⟨0,Z,Z,ar⟩ ?_));clear ar;intro am t O aq hI;obtain⟨q,bs,be,ar⟩:=hI;obtain⟨oo,rfl⟩:=aq.q1 be Z;refine Qn ar 9 [0,3] Z Z<|aF Z (fun R=>?_) (fun R=>?_)
   ·refine Oj 6 Z ?_;have hin:=bk C;have hqn:=bk R;refine QY ar 3 [1,3] Z Z<|Y Z (eI (e:=194) (m:=1) U U Z Z hin) Z<|Y Z (ax Z (ar.get 2 Z) U<|hH (eb hin) (by first | omega | rfl)) Z<|vQ 1 Z<|Y Z (iA (j:=q) oM U U U Z) Z<|Qi 5 Z<|aF Z (fun S=>?_) (fun S=>?_)
    ·have w:T i q=true:=by have e:=(rG (x:=cS n<|T i) (j:=q) oM).symm.trans S;rw[dk,decide_eq_true hqn,Bool.true_and] at e;exact e
     refine aQ (l:=zp [0,1,2,3,4,5,6,7,8,9,10,11,12,13,14,15,16,17,18]) U U<|QZ ar 6 [1,0,1,0] Z Z<|aj Z Z (eI (e:=194) (m:=1) U U Z Z hin) Z<|aj Z Z (ax Z ar.g1 U<|hH (eb hin) (by first | omega | rfl)) Z<|QW 2 Z<|Rt (e:=149) (m:=2) hs ba Z Z Z Z Z (fun cb bt ao bv ap=>?_);have hr58':=ap;obtain⟨cc,rfl,aE⟩:=hr58';refine dY ao Z Z Z Z (k:=1) U (lb Z) (fun _=>Z) (fun ce a0=>?_);refine aj Z Z (RE ar a0 Z Z) Z<|wQ 1 Z<|Rt (e:=194) (m:=1) aE (eb hqn) Z Z Z Z Z (fun ch bw a1 b0 a2=>?_);obtain rfl:=a2;refine aj Z Z (RE ar a1 Z Z) Z (aj Z Z (az (v:=.int .u64 (.ofNat<|cS n (iN n T B i q i) ||| cS n (B q))) Z Z<|J8 (gu hn _)<|gu hn _) Z<|aj Z Z (eI (e:=194) (m:=1) U U Z Z hin) Z ?_);refine ik ar (.there .here) Z Z (aK Z Z Z ar.g1 (m:=1) U Z (by rw[lM_];rw[cM];omega) Z (cells':=((bB n<|iN n T B i q).set i<|cS n (iN n T B i q i) ||| cS n (B q)).map (gU)) (eN (f:=gU) (v:=(cS n (iN n T B i q i) ||| cS n (B q))) (by rw[cM];exact hin) (by first | omega | rfl))) Z (fun O ar=>?_);refine⟨aX,?_⟩;rw[GP w] at ar;refine aV<|aG<|QR 5 Z<|aL ⟨am-1,by omega,oF,q+1,by omega,cI<|aY oM,ar⟩
    have w:T i q=false:=by have e:=(rG (x:=cS n<|T i) (j:=q) oM).symm.trans S;rw[dk,decide_eq_true hqn,Bool.true_and] at e;exact e
    refine aH<|aG<|QR 5 Z ?_;rw[Ii w] at ar;refine aL ⟨am-1,by omega,oF,q+1,by omega,cI<|aY oM,ar⟩
   refine PC 3 Z<|aS<|aG<|QR 5 Z ?_;have hlp:=bk C;have W:q=n:=by have:=bz R;omega
   subst W;rw[GO] at ar;refine aL ⟨j9-1,by omega,oF,i+1,by omega,cI<|aY oM,ar⟩
  refine PC 3 Z<|aS<|ad<|ai Z<|Y Z (RB Z ar.g0 (n:=2) (vs:=[_,_]) Z) Z<|ka ar Z (RG Z Z Z (ar.get 3 Z) (m:=2) Z Z (cells':=[_,_]) Z) Z (fun O ar=>?_);replace ar:=ar.sub (.cons _ (.cons_cons _ (.cons _ (.cons_cons _ (.cons_cons _ (.refl _))))));refine ah<|aG<|QR 5 Z ?_;have W:i=n:=by have:=bz C;omega
  subst W;rw[Dz] at ar;refine aL ⟨j5-1,by omega,oF,k+1,b5,mN i T B,by omega,.inr ⟨by omega,DB a5⟩,cI<|aY oM,ar⟩
 refine PC 3 Z<|aS<|Qg 2 Z<|Y Z (RB Z ar.g1 (n:=2) (vs:=[_,_]) Z) Z<|kZ ar Z (RG Z Z Z (ar.get 2 Z) (m:=2) Z Z (cells':=[_,_]) Z) Z (fun O ar=>?_);refine Qk 3 Z ?_;have bi:bB n T=bB n (mN n A B):=by have:=bz (a:=k) (b:=2) Q;rcases hT with h | h;omega;exact h.2
 rw[bi] at ar;exact eQ Z Z (ar.get 2 Z) (m:=2) U Z ⟨E,bq,d,Z,ar.sub (.cons_cons _ (.cons _ (.cons _ (.refl _))))⟩
theorem HQ.congr {n:Nat} {R S T:Rn} (h:HQ n R S) (he:bB n S=bB n T):HQ n R T:=
 ⟨fun i j hi hj b=>(nJ he hi hj).symm.trans (h.low i j hi hj b),fun i j hi hj d=>h.high i j hi hj ((nJ he hi hj).trans d)⟩
theorem Ar {G:Cx} (hG:Plain G) {K:KP} {n:Nat} (hn:n<=64) {A:Rn} {va:V} (ha:bF K 1 RU (bB n A) va) {O:N} {L:Own} (ar:D O K L):
  a8 Tryz.prog G 147 [.agg [.int .i64 (.ofNat n),va]] O fun v O'=>∃K1 u,KP.le K K1/\v= .agg [.int .i64 (.ofNat n),u]/\bF K1 1 RU (bB n<|yh n A) u/\D O' K1 L:=by
 refine QO hG Tryz.func147 Z<|Qg 2 Z<|kp ar Z (cG Z Z) (fun O b1 ar=>?_);refine kp ar Z (RD (cs:=[J,.av])) (fun O b2 ar=>?_);refine O4 5 Z<|Y Z (RB Z ar.g1 (n:=2) (vs:=[_,_]) Z) Z<|bc Z (Rx Z Z Z) (fun _=>Z) (qJ hG hn ha ar) (fun O ar=>?_);refine Qi 3 Z<|aF Z (fun h7=>?_) (fun h7=>?_)
 ·exact absurd h7 (by decide)
 refine PB 4 Z<|Y Z (RB Z ar.g1 (n:=2) (vs:=[_,_]) Z) Z<|fY ar Z (cm (e:=149) (m:=2) (z:=[J,.av]) (cs:=[_,_]) U U U U<|bj Z Z Z Z bO) (fun _=>Z) (fun O b3 ar=>?_);obtain⟨K1,C,F,ar⟩:=D.cA (M:=[_]) ar;have hs1:=F5 (n:=n) (F _<|mS_ ..) (ha.mono C fun _ _ h=>h);refine bR Z (Rx Z Z Z) (fun _=>Z) (EB hG hn hs1 (Nat.succ_pos _) ar) ?_;rintro _ O ⟨c1,rfl,ar⟩;obtain⟨K2,ao,Q,ar⟩:=D.cA (M:=[_]) ar;have hT:=fK (Q _<|mS_ ..) (cM n<|pR [A]) oM;refine kp ar Z (RD (cs:=[J,.av])) (fun O b4 ar=>?_);refine bE ar Z (RG Z Z Z ar.g0 (m:=2) Z (af Z<|af hT.leaf.2 aA) (cells':=[_,_]) Z) Z (fun O ar=>?_);refine PD 3 Z (bh ([4]++rg 12 12) (fun j t O=>∃(T:Rn) (u:V) (K2:KP),KP.le K K2/\HQ n A T/\bF K2 1 RU (bB n T) u/\n*n<=GN n T+j/\D O K2 ((b4,.row [.int .i64 (.ofNat n),u] 149 false)::(b2,.row [J,.av] 149 false)::(b1,.row [.int .i64 (.ofNat n),va] 149 false)::L)) (n*n) ⟨pR [A],_,K2,KP.le_trans C ao,(HQ.refl n A).congr (cL fun a b _ _=>by unfold pR;simp),hT,Nat.le_add_left _ _,ar⟩ ?_);clear ar;intro j4 t O aq hI;obtain⟨T,u,K2,E,hM,hT,a2,ar⟩:=hI;obtain⟨oo,rfl⟩:=aq.q0 Z;refine aM (ak (aQ (l:=[(0,[]),(1,[]),(2,[]),(3,[]),(7,[]),(4,[0,7]),(5,[]),(6,[7]),(8,[])]) U U<|aj Z Z (RB Z ar.g0 (n:=2) (vs:=[_,_]) Z) Z<|aj Z Z (RB Z ar.g0 (n:=2) (vs:=[_,_]) Z) Z<|aj Z Z (RB Z ar.g0 (n:=2) (vs:=[_,_]) Z) Z<|sf ar Z Z (cm (e:=149) (m:=2) (z:=[J,.av]) (cs:=[_,_,_,_]) U U U U<|bj Z Z Z Z<|bj Z Z Z Z bO) (fun _=>Z) (fun O b5 ar=>?_)));refine oV ar Z Z (RD (cs:=[J,.av])) (fun _=>Z) (fun O b6 ar=>?_);replace ar:=ar.pull (.there<|cX.here (X:=[_]));obtain⟨K3,w,W,ar⟩:=D.cA (M:=[_]) ar;have hs3:=ta (n:=n) (W _<|mS_ ..) (hT.mono w fun _ _ h=>h) (hT.mono w fun _ _ h=>h);refine fF Z Z (Rx Z Z Z) (fun _=>Z) (NB hG hn hs3 ar) ?_;rintro _ O ⟨K3b,c3,hle3b,rfl,ar⟩;obtain⟨K4,ap,aa,ar⟩:=D.cA (M:=[_]) ar;have h16:=fK (aa _<|mS_ ..) (cM n<|mN n T T) oM;have hle34:=KP.le_trans w (KP.le_trans hle3b ap);replace hT:=hT.mono hle34 fun _ _ h=>h
 refine⟨(bu (bG Z Z Z Z Z (RB Z ar.g1 (n:=2) (vs:=[_,_]) Z)<|gP<|cK (fA _ _)<|cK hT.jm gQ)<|bu (lQ Z Z Z Z Z (cs:=[J,.av]) (e:=149) U ar.g0 U) aX),?_⟩;refine sf ar Z Z (cm (e:=149) (m:=2) (z:=[J,.av]) (cs:=[_,_,_,_]) U U U U<|bj Z Z Z Z<|bj Z Z Z Z bO) (fun _=>Z) (fun O b7 ar=>?_);obtain⟨K5,d,ab,ar⟩:=D.cA (M:=[_]) ar;have hs5:=ta (n:=n) (ab _<|mS_ ..) (hT.mono d fun _ _ h=>h) (h16.mono d fun _ _ h=>h);refine fF Z Z (Rx Z Z Z) (fun _=>Z) (EB hG hn hs5 (Nat.succ_pos _) ar) ?_;rintro _ O ⟨c5,rfl,ar⟩;obtain⟨K6,B,ac,ar⟩:=D.cA (M:=[_]) ar;have h18:=fK (ac _<|mS_ ..) (cM n<|pR [T,mN n T T]) oM;replace hT:=hT.mono (KP.le_trans d B) fun _ _ h=>h
 refine⟨(bu (lQ Z Z Z Z Z (cs:=[J,.av]) (e:=149) U ar.g0 U) aX),?_⟩;refine gF ar Z Z (RG Z Z Z ar.g0 (m:=2) Z (af Z<|af h18.leaf.2 aA) (cells':=[_,_]) Z) Z (fun O ar=>?_);refine⟨aX,?_⟩;refine Ql 2 Z<|Pz 3 Z<|Y Z (RB Z ar.g0 (n:=2) (vs:=[_,_]) Z) Z<|Y Z (RB Z ar.g1 (n:=2) (vs:=[_,_]) Z) Z<|bR Z (Rx Z Z Z) (fun _=>Z) (NA hG hn h18 hT ar) ?_;rintro _ O ⟨⟨a3,rfl,a0,a1⟩,ar⟩;refine Qi 2 Z<|aF Z (fun am=>?_) (fun am=>?_)
 ·refine Qg 2 Z<|Y Z (RB Z ar.g1 (n:=2) (vs:=[_,_]) Z) Z<|kZ ar Z (RG Z Z Z (ar.get 2 Z) (m:=2) Z (af Z<|af hT.leaf.2 aA) (cells':=[_,_]) Z) Z (fun O ar=>?_);refine Qk 3 Z<|ay<|aJ<|bD<|aJ (?_);have aE:bB n (Hw n T)=bB n T:=by rw[<-Mx];exact a0 am
  rw[hM.fix aE] at hT;exact eQ Z Z (ar.get 2 Z) (m:=2) U Z ⟨K6,_,KP.le_trans E<|KP.le_trans hle34<|KP.le_trans d B,Z,hT,ar.pop.pop.pop.pop⟩
 refine aH<|ad<|ai Z<|Y Z (RB Z ar.g0 (n:=2) (vs:=[_,_]) Z) Z<|eE ar Z (RG Z Z Z ar.g1 (m:=2) Z (af Z<|af h18.leaf.2 aA) (cells':=[_,_]) Z) Z (fun O ar=>?_);replace ar:=ar.sub (.cons _ (.cons_cons _ (.cons_cons _ (.cons_cons _ (.refl _)))));refine ah<|aG ?_;have hne:=a1 am;rw[Mx] at hne h18;have hlt:=KX (n:=n) (S:=T) (R:=Hw n T) (fun a b _ _ h=>JZ h) (fun e=>hne e.symm);have hmx:=KW n (Hw n T);refine aL ⟨j4-1,by omega,oF,Hw n T,_,K6,KP.le_trans E<|KP.le_trans hle34<|KP.le_trans d B,hM.sq,h18,by omega,ar⟩
theorem O9 {G:Cx} (F:Plain G) {K:KP} {n:Nat} (Q:n<=64) {A:Rn} {va:V} (M:bF K 1 RU (bB n A) va) {i q:Nat} (hi:i<n) (hq:q<n) {O:N} {L:Own} (ar:D O K L):
  a8 Tryz.prog G 212 [.agg [.int .i64 (.ofNat n),va],.int .i64 (.ofNat i),.int .i64 (.ofNat q)] O fun u O'=>u= .bool (A i q)/\D O' K L:=by
 refine QO F Tryz.func212 Z<|Qg 2 Z<|kp ar Z (cG Z Z) (fun O b1 ar=>?_);refine PF 5 Z<|Y Z (RB Z ar.g0 (n:=2) (vs:=[_,_]) Z) Z<|bc Z (Rx Z Z Z) (fun _=>Z) (qJ F Q M ar) (fun O ar=>?_);refine vQ 1 Z<|ky Z (an Z) (fun b=>?_) (fun b=>?_)
 ·refine QV 3 Z<|ky Z (an Z) (fun d=>?_) (fun d=>?_)
  ·refine QY ar 5 [0,0] Z Z<|ky Z (an Z) (fun w=>?_) (fun w=>?_)
   ·refine QV 3 Z<|ky Z (an Z) (fun z=>?_) (fun z=>?_)
    ·refine QY ar 5 [0,0] Z Z<|ky Z (an Z) (fun B=>?_) (fun B=>?_)
     ·refine QY ar 3 [1,0] Z Z<|Rr (e:=194) (m:=1) M (eb hi) Z Z Z Z (fun ac aa C ab E=>?_);obtain rfl:=E;refine Y Z (RE ar C Z Z) Z<|vQ 1 Z<|Y Z (iA (j:=q) oM U U U Z) Z<|Qk 8 Z ?_;exact aB Z Z ⟨cB ((rG (x:=cS n<|A i) (j:=q) oM).trans (by rw[dk,decide_eq_true hq,Bool.true_and])),ar.pop⟩
     exact absurd (bz B) oM
    exact Bool.noConfusion (show true=false from z)
   exact absurd (bz w) oM
  exact Bool.noConfusion (show true=false from d)
 exact absurd b (by decide)
theorem Ho {G:Cx} (hG:Plain G) {K:KP} {n:Nat} (hn:n<=64) {l:List (Nat×Nat)} {v:V} (W:bF K 2 RP l v) (X:∀p∈l,p.1<n/\p.2<n) {O:N} {L:Own} (ar:D O K L):
  a8 Tryz.prog G 149 [.int .i64 (.ofNat n),v] O fun u O'=>∃b,u= .agg [.int .i64 (.ofNat n),.slice b 0 n (.known n)]/\D O' K ((b,.row ((bB n<|Cl l).map gU) 194 false)::L):=by
 refine QO hG Tryz.func149 Z<|Qg 2 Z<|kp ar Z (RD (cs:=[J,.av])) (fun O b1 ar=>?_);refine PF 5 Z<|bR Z (Rx Z Z Z) (fun _=>Z) (xl hG hn ar) ?_;rintro _ O ⟨b2,rfl,ar⟩;refine kp ar Z (RD (cs:=[J,.av])) (fun O b3 ar=>?_);refine bE ar Z (RG Z Z Z ar.g0 (m:=2) Z Z (cells':=[_,_]) Z) Z (fun O ar=>?_);refine O4 5 Z ?_;rw[show bB n (fun _ _=>false)=bB n (Cl<|l.take 0) from cL fun a b _ _=>by unfold Cl;simp] at ar;refine PD 4 Z (bh ([6,7,8]++rg 11 47) (fun j t O=>∃(k:Nat),j+k=l.length/\t.get 6=some (.int .i64 (.ofNat k))/\D O K ((b3,.row [.int .i64 (.ofNat n),.slice b2 0 n (.known n)] 149 false)::(b2,.row ((bB n<|Cl<|l.take k).map gU) 194 false)::(b1,.row [J,.av] 149 false)::L)) (l.length) ⟨0,Z,Z,ar⟩ ?_);clear ar;intro j3 t O aq hI;obtain⟨k,a0,aa,ar⟩:=hI;obtain⟨oo,rfl⟩:=aq.q1 aa Z;refine Pz 5 Z<|Y Z (RC W Z Z Z (e:=204) Z) Z<|Qi 3 Z<|aF Z (fun d=>?_) (fun d=>?_)
 ·refine Oi 5 Z<|aQ (l:=zp [0,1,2,3,4,5,6,7,8,9,10,11]) U U ?_;obtain⟨⟨pa,pb⟩,w,a1⟩:=dH d;obtain⟨z,ab⟩:pa<n/\pb<n:=X _ (gB_ w);refine QW 2 Z<|Rt (e:=204) (m:=2) W w Z Z Z Z Z (fun a2 am A ao B=>?_);obtain rfl:=B;refine qG A Z Z Z Z (nn:=2) (e:=3) (m:=1) (j:=0) Z U U (by decide) (lb Z) (fun _=>Z) (fun a3 C=>?_);refine aj Z Z (RE ar C Z Z) Z<|QW 2 Z<|Rt (e:=204) (m:=2) W w Z Z Z Z Z (fun a4 ap E aE F=>?_);obtain rfl:=F;refine qG E Z Z Z Z (nn:=2) (e:=3) (m:=1) (j:=1) Z U U (by decide) (lb Z) (fun _=>Z) (fun a5 M=>?_);refine aj Z Z (RE ar M Z Z) Z<|Ql 4 Z<|Qg 4 Z<|ky Z (an Z) (fun Q=>?_) (fun Q=>?_)
  ·refine QY ar 5 [0,0] Z Z<|ky Z (an Z) (fun R=>?_) (fun R=>?_)
   ·refine QV 3 Z<|ky Z (an Z) (fun S=>?_) (fun S=>?_)
    ·refine Qo ar 7 [0,0] Z Z<|aF Z (fun T=>?_) (fun T=>?_)
     ·refine aQ (l:=zp [0,1,2,3,4,5,6,7,8,9,10,11,12,13]) U U (QZ ar 6 [1,0,1,0] Z Z (aj Z Z (eI (e:=194) (m:=1) U U Z Z z) Z (aj Z Z (ax Z ar.g1 U<|hH (eb z) (by first | omega | rfl)) Z (wQ 1 Z (aj Z Z (iA (j:=pb) oM U U U Z) Z (aj Z Z (az (v:=.int .u64 (.ofNat (2 ^ pb))) Z Z<|Gh oM) Z (aj Z Z (az (v:=.int .u64 (.ofNat<|cS n (Cl (l.take k) pa) ||| 2 ^ pb)) Z Z<|J8 (gu hn _)<|Nat.pow_lt_pow_right oM oM) Z<|aj Z Z (eI (e:=194) (m:=1) U U Z Z z) Z ?_)))))));refine ik ar (.there .here) Z Z (aK Z Z Z ar.g1 (m:=1) U Z (by rw[lM_];rw[cM];omega) Z (cells':=((bB n<|Cl<|l.take k).set pa<|cS n (Cl (l.take k) pa) ||| 2 ^ pb).map (gU)) (eN (f:=gU) (v:=(cS n (Cl (l.take k) pa) ||| 2 ^ pb)) (by rw[cM];exact z) (by first | omega | rfl))) Z (fun O ar=>?_);refine⟨aX,?_⟩;rw[Ly w ab] at ar;refine aV<|aG<|QR 5 Z ?_;have hlp:=bk d;refine aL ⟨j3-1,by omega,oF,k+1,by omega,cI<|aY (by have:=W.bL;omega),ar⟩
     exact absurd (bz T) oM
    exact Bool.noConfusion (show true=false from S)
   exact absurd (bz R) oM
  exact Bool.noConfusion (show true=false from Q)
 refine PC 3 Z<|aS<|Qg 2 Z<|Y Z (RB Z ar.g0 (n:=2) (vs:=[_,_]) Z) Z<|kZ ar Z (RG Z Z Z (ar.get 2 Z) (m:=2) Z Z (cells':=[_,_]) Z) Z (fun O ar=>?_);refine Qk 3 Z ?_;have ac:l.take k=l:=tL_ (bz d);rw[ac] at ar;exact eQ Z Z (ar.get 2 Z) (m:=2) U Z ⟨b2,Z,ar.sub (.cons _ (.cons_cons _ (.cons _ (.refl _))))⟩
theorem LP {G:Cx} (hG:Plain G) {K:KP} {n:Nat} (hn:n<=64) {A:Rn} {va:V} (ha:bF K 1 RU (bB n A) va) {O:N} {L:Own} (ar:D O K L):
  a8 Tryz.prog G 153 [.agg [.int .i64 (.ofNat n),va]] O fun u O'=>∃M,dt 2 204 RP (iH n A) u M/\D O' K (M++L):=by
 refine QO hG Tryz.func153 Z<|Qg 2 Z<|kp ar Z (cG Z Z) (fun O b1 ar=>?_);refine O3 15 Z (bh (rg 3 36) (fun j t O=>∃(i:Nat) (u:V) (M:Own),j+i=n/\dt 2 204 RP (eJ n A i 0) u M/\t.get 3=some (u)/\t.get 4=some (.int .i64 (.ofNat i))/\D O K (M++(b1,.row [.int .i64 (.ofNat n),va] 149 false)::L)) (n) ⟨0,_,[],Z,(show dt 2 204 RP (eJ n A 0 0) .av [] from .inl ⟨by unfold eJ;simp,Z,Z⟩),Z,Z,ar⟩ ?_);clear ar;intro j3 t O aq hI;obtain⟨i,u,M,aE,hO,w,aa,ar⟩:=hI;obtain⟨oo,rfl⟩:=aq.q2 w aa Z;refine PJ ar 5 [0] Z Z<|Y Z (Rz Z ar.bA.g0 Z) Z<|vQ 1 Z<|ky Z (an Z) (fun d=>?_) (fun d=>?_)
 ·refine Y Z (RB Z ar.bA.g0 (n:=2) (vs:=[_,_]) Z) Z<|bc Z (Rx Z Z Z) (fun _=>Z) (qJ hG hn ha ar) (fun O ar=>?_);refine Qi 4 Z<|aF Z (fun F=>?_) (fun F=>?_)
  ·refine O1 9 Z (aM (bh ([3,5]++rg 17 22) (fun j t O=>∃(q:Nat) (Q:V) (S:Own),j+q=n/\dt 2 204 RP (eJ n A i q) Q S/\t.get 3=some (Q)/\t.get 5=some (.int .i64 (.ofNat q))/\D O K (S++(b1,.row [.int .i64 (.ofNat n),va] 149 false)::L)) (n) ⟨0,u,M,Z,hO,Z,Z,ar⟩ ?_));clear ar;intro j6 t O aq hI;obtain⟨q,Q,S,a0,hO2,w,ab,ar⟩:=hI;obtain⟨oo,rfl⟩:=aq.q2 w ab Z;refine PJ ar 5 [0] Z Z<|Y Z (Rz Z ar.bA.g0 Z) Z<|Qi 3 Z<|aF Z (fun B=>?_) (fun B=>?_)
   ·refine Oj 6 Z ?_;have hin:=bk d;have hqn:=bk B;refine Y Z (Ry 1 Z) Z<|Y Z (Rz Z ar.bA.g0 Z) Z<|vQ 1 Z<|Rr (e:=194) (m:=1) ha (eb hin) Z Z Z Z (fun a1 ao T ap W=>?_);obtain rfl:=W;refine Y Z (RE ar T Z Z) Z<|vQ 1 Z<|Y Z (iA (j:=q) oM U U U Z) Z<|Qi 5 Z<|aF Z (fun C=>?_) (fun C=>?_)
    ·have b:A i q=true:=by have e:=(rG (x:=cS n<|A i) (j:=q) oM).symm.trans C;rw[dk,decide_eq_true hqn,Bool.true_and] at e;exact e
     refine ai Z<|QV 3 Z<|Y Z (mC (e:=3) (n:=2) (m:=1) (zero:=[J,J]) (cs:=[_,_]) U U U Z) Z<|fY ar Z (cm (e:=204) (m:=2) (z:=[J,J]) (cs:=[_,_]) U U U U<|bj Z Z Z Z bO) (fun _=>Z) (fun O b2 ar=>?_);replace ar:=ar.pull (.there .here);replace ar:=ar.pull (.dv<|cX.here (X:=[_]));refine kY (R:=RP) (m:=2) (e:=204) hO2 ar (fV (m:=2) Z (show RP (i,q) [.int .i64 (.ofNat i),.int .i64 (.ofNat q)] from Z)) RP.leaf (by have:=kf (n:=n) (R:=A) (i:=i) (q:=q);have:i*n<=64*64:=Nat.mul_le_mul oM hn;show _+1<=_;omega) Z Z Z Z Z Z Z (fun _=>Z) (fun O ac am hO38 ar=>?_);refine QU 2 Z<|aG<|QR 5 Z<|aL ⟨j6-1,by omega,oF,q+1,ac,am,by omega,(kh b ▸ hO38),Z,cI<|aY oM,ar⟩
    have b:A i q=false:=by have e:=(rG (x:=cS n<|A i) (j:=q) oM).symm.trans C;rw[dk,decide_eq_true hqn,Bool.true_and] at e;exact e
    refine aH<|aG<|QR 5 Z<|aL ⟨j6-1,by omega,oF,q+1,Q,S,by omega,(lP b ▸ hO2),Z,cI<|aY oM,ar⟩
   refine PC 3 Z<|aS<|aG<|QR 5 Z ?_;have hlp:=bk d;have E:q=n:=by have:=bz B;omega
   subst E;refine aL ⟨j3-1,by omega,oF,i+1,Q,S,by omega,(kg ▸ hO2),Z,cI<|aY oM,ar⟩
  exact absurd F (by decide)
 refine PI 9 Z<|aW<|aS<|QT 7 Z ?_;have E:i=n:=by have:=bz d;omega
 subst E;rw[pU] at hO;exact aB Z Z ⟨M,hO,ar.sub<|eO (.cons _ (.refl _))⟩
end Go.Ev
namespace Go.Ev
variable [Env]
def mh:List (List bW)->Nat->List bT
 | [],_=>[]
 | r::l,t=>(List.range r.length).map (fun i=>(⟨.ofNat (t+1),.ofNat i⟩:bT))++mh l (t+1)
def ie (g:XG):List bT:=(List.range g.init.length).map (fun i=>(⟨0,.ofNat i⟩:bT))++mh g.threads 0
def ep (g:XG) (i:Nat):bT:=((ie g)[i]?).getD ⟨0,0⟩
def ez (g:XG) (i:Nat):bW:=mE (cZ g<|ep g i)
def DP (g:XG):List bW:=(ie g).map fun id=>mE (cZ g id)
def nV (g:XG):Nat:=(ie g).length
theorem yU:∀{l:List (List bW)} {t s:Nat} {row:List bW},l[t]?=some row->mh (l.take (t+1)) s=mh (l.take t) s++(List.range row.length).map fun i=>(⟨.ofNat (s+t+1),.ofNat i⟩:bT)
 | [],_,_,_,h=>by simp at h
 | r::l,0,s,row,h=>by
  simp only[List.getElem?_cons_zero,oJ_] at h;subst h;simp[mh]
 | r::l,t+1,s,row,h=>by
  have:=yU (l:=l) (t:=t) (s:=s+1) (by simpa using h);rw[List.take_succ_cons,List.take_succ_cons];show _++mh (l.take (t+1)) (s+1)=(_++mh (l.take t) (s+1))++_;rw[this,lQ_,show s+1+t+1=s+(t+1)+1 by omega]
def qY (g:XG) (i t k:Nat):List bT:=(List.range i).map (fun i=>(⟨0,.ofNat i⟩:bT))++(mh (g.threads.take t) 0++(List.range k).map fun i=>(⟨.ofNat (t+1),.ofNat i⟩:bT))
theorem Nk {g:XG} {i:Nat}:qY g i 0 0++[⟨0,.ofNat i⟩]=qY g (i+1) 0 0:=by unfold qY;simp[mh,List.range_succ]
theorem Nl {g:XG} {i t k:Nat}:qY g i t k++[⟨.ofNat (t+1),.ofNat k⟩]=qY g i t (k+1):=by unfold qY;simp[List.range_succ,lQ_]
theorem Nm {g:XG} {i t:Nat} {row:List bW} (h:g.threads[t]?=some row):qY g i t row.length=qY g i (t+1) 0:=by
 unfold qY;rw[yU h,nA_];simp
theorem IT {g:XG} {t:Nat} (h:g.threads.length<=t):qY g g.init.length t 0=ie g:=by
 unfold qY ie;rw[tL_ h];simp
section
variable {g:XG}
theorem ID:(DP g).length=nV g:=lM_ ..
theorem eT {i:Nat} (h:i<nV g):(ie g)[i]?=some (ep g i):=by unfold ep;rw[gC h];rfl
theorem gd {i:Nat} (h:i<nV g):(DP g)[i]?=some (ez g i):=by unfold DP ez;rw[gM_,eT h];rfl
theorem vE:∀{l:List (List bW)} {t n:Nat} {id:bT},(mh l t)[n]?=some id->∃(s k:Nat) (row:List bW) (e:bW),l[s]?=some row/\row[k]?=some e/\id=⟨.ofNat (t+s+1),.ofNat k⟩
 | [],_,_,_,h=>by simp[mh] at h
 | r::l,t,n,id,h=>by
  unfold mh at h
  by_cases b:n<r.length
  ·rw[gL_ (by simpa using b),gM_,List.getElem?_range b] at h;simp only[Option.map_some,oJ_] at h;exact⟨0,n,r,r[n],Z,gC b,h.symm⟩
  rw[gR_ (by simpa using Nat.le_of_not_lt b)] at h;obtain⟨s,k,row,e,h1,d,h3⟩:=vE h;exact⟨s+1,k,row,e,by simpa using h1,d,by rw[h3,show t+1+s+1=t+(s+1)+1 by omega]⟩
theorem B7:∀{l:List (List bW)} {t s k:Nat} {row:List bW} {e:bW},l[s]?=some row->row[k]?=some e->(⟨.ofNat (t+s+1),.ofNat k⟩:bT)∈mh l t
 | [],_,_,_,_,_,h,_=>by simp at h
 | r::l,t,0,k,row,e,h,b=>by
  simp only[List.getElem?_cons_zero,oJ_] at h;subst h;unfold mh;exact List.mem_append_left _<|List.mem_map.2 ⟨k,List.mem_range.2 (gA.1 b).1,Z⟩
 | r::l,t,s+1,k,row,e,h,b=>by
  unfold mh;have:=B7 (t:=t+1) (by simpa using h) b;rw[show t+1+s+1=t+(s+1)+1 by omega] at this;exact List.mem_append_right _ this
theorem jv {i:Nat} (h:i<nV g):(∃(x:Nat) (v:Int),ep g i=⟨0,.ofNat x⟩/\g.init[x]?=some v/\ez g i=⟨2,.ofNat x,1,0,v⟩)∨(∃(t k:Nat) (row:List bW) (e:bW),ep g i=⟨.ofNat (t+1),.ofNat k⟩/\g.threads[t]?=some row/\row[k]?=some e/\ez g i=e):=by
 have ha:=eT h;unfold ie at ha
 by_cases b:i<g.init.length
 ·rw[gL_ (by simpa using b),gM_,List.getElem?_range b] at ha;simp only[Option.map_some,oJ_] at ha;refine .inl ⟨i,g.init[i],ha.symm,gC b,?_⟩;unfold ez;rw[<-ha];show mE ((g.init[i]?).map fun v=>(⟨2,i,1,0,v⟩:bW))=_;rw[gC b];rfl
 rw[gR_ (by simpa using Nat.le_of_not_lt b)] at ha;obtain⟨s,k,row,e,h1,d,h3⟩:=vE ha;rw[nA_] at h3;refine .inr ⟨s,k,row,e,h3,h1,d,?_⟩;unfold ez;rw[h3,gk,h1];show mE (row[k]?)=e;rw[d];rfl
theorem Lm {id:bT} {e:bW} (h:cZ g id=some e) (hw:0<=id.index):id∈ie g:=by
 obtain⟨th,ix⟩:=id;obtain⟨k,rfl⟩:∃k:Nat,ix= .ofNat k:=⟨ix.toNat,(Int.toNat_of_nonneg hw).symm⟩;unfold ie
 match th with
 | .ofNat 0=>
  have h:(g.init[k]?).map (fun v=>(⟨2,k,1,0,v⟩:bW))=some e:=h;obtain⟨v,hv,_⟩:=oM_.1 h;exact List.mem_append_left _<|List.mem_map.2 ⟨k,List.mem_range.2 (gA.1 hv).1,Z⟩
 | .ofNat (t+1)=>
  rw[show(⟨.ofNat (t+1),.ofNat k⟩:bT)=⟨.ofNat (t+1),.ofNat k⟩ from Z,gk] at h;obtain⟨row,h1,b⟩:=Option.bind_eq_some_iff.1 h;have:=B7 (t:=0) h1 b;rw[nA_] at this;exact List.mem_append_right _ this
 | .negSucc t=>simp[cZ] at h
theorem wI:∀{l:List (List bW)} {t:Nat},(∀r∈l,r.length<=14)->(mh l t).length<=14*l.length
 | [],_,_=>nR_ _
 | r::l,t,h=>by
  unfold mh;have h1:=wI (l:=l) (t:=t+1) fun r b=>h r (mC_ _ b)
  have h2:=h r (mS_ ..);rw[lA_,lM_,List.length_range,List.length_cons];omega
theorem B5 (h:dD g) {i t k:Nat} (hi:i<=6) (hk:k<=14) (ht:t<=4):(qY g i t k).length<=100:=by
 unfold qY
 have h1:=wI (l:=g.threads.take t) (t:=0) fun r b=>by
  obtain⟨i,hi⟩:=gO_ (List.mem_of_mem_take b);exact h.short i r hi
 have h2:(g.threads.take t).length<=t:=List.length_take_le ..;simp only[lA_,lM_,List.length_range];omega
theorem pN (h:dD g):nV g<=62:=by
 unfold nV ie;rw[lA_,lM_,List.length_range]
 have h1:=wI (l:=g.threads) (t:=0) fun r b=>by
  obtain⟨i,hi⟩:=gO_ b;exact h.short i r hi
 have:=h.threads;have:=h.init;omega
theorem FJ:∀{l:List (List bW)} {t:Nat},(mh l t).Pairwise (·≠·)
 | [],_=>.nil
 | r::l,t=>by
  unfold mh;refine List.pairwise_append.2 ⟨?_,FJ,fun a d b hb=>?_⟩
  ·refine List.pairwise_map.2 ((List.pairwise_lt_range (n:=r.length)).imp fun {a b} hab he=>?_);have:=iJ_ (congrArg bT.index he);omega
  obtain⟨k,_,rfl⟩:=List.mem_map.1 d;obtain⟨q,hq⟩:=gO_ hb;obtain⟨s,k',_,_,_,_,rfl⟩:=vE hq;intro he;have:=iJ_ (congrArg bT.cH he);omega
theorem Nn:(ie g).Pairwise (·≠·):=by
 unfold ie;refine List.pairwise_append.2 ⟨?_,FJ,fun a d b hb=>?_⟩
 ·refine List.pairwise_map.2 ((List.pairwise_lt_range (n:=g.init.length)).imp fun {a b} hab he=>?_);have:=iJ_ (congrArg bT.index he);omega
 obtain⟨k,_,rfl⟩:=List.mem_map.1 d;obtain⟨q,hq⟩:=gO_ hb;obtain⟨s,k',_,_,_,_,rfl⟩:=vE hq;intro he;have h1:(0:Int)=((0+s+1:Nat):Int):=congrArg bT.cH he;omega
theorem FK {i j:Nat} {id:bT} (hi:(ie g)[i]?=some id) (hj:(ie g)[j]?=some id):i=j:=by
 have hp:=List.pairwise_iff_getElem.1 (Nn (g:=g));obtain⟨h1,e1⟩:=gA.1 hi;obtain⟨b,d⟩:=gA.1 hj;rcases Nat.lt_trichotomy i j with h | h | h
 ·exact absurd (e1.trans d.symm)<|hp i j h1 b h
 ·exact h
 exact absurd (d.trans e1.symm)<|hp j i b h1 h
end
theorem sS {α:Type} {p:α->Bool}:∀{l:List α} {i n:Nat} {x:α},l[n]?=some x->p x=true->(∀k y,k<n->l[k]?=some y->p y=false)->fB p l i= .ofNat (i+n)
 | [],_,_,_,h,_,_=>by simp at h
 | y::l,i,0,x,h,hp,_=>by
  simp only[List.getElem?_cons_zero,oJ_] at h;subst h;unfold fB;rw[hp];rfl
 | y::l,i,n+1,x,h,hp,hb=>by
  unfold fB;rw[hb 0 y oM Z];have:=sS (i:=i+1) (l:=l) (n:=n) (by simpa using h) hp fun k z hk b=>hb (k+1) z oM (by simpa using b)
  show fB p l (i+1)=_;rw[this,show i+1+n=i+(n+1) by omega]
def Ld (g:XG) (id:bT):bT:=((((g.from_[id.cH.toNat-1]?).getD [])[id.index.toNat]?).getD ⟨0,0⟩)
def kS (g:XG) (i:Nat):Int:=bif cD (ez g i) then fB (fun x:bT=>bY x.ints (Ld g<|ep g i).ints) (ie g) 0 else-1
def Ju (g:XG) (loc:Int):List bT:=(g.order[loc.toNat]?).getD []
def jB (g:XG) (i:Nat):Int:=bif H (ep g i).cH 0 then 0 else(let p:=fB (fun x:bT=>bY x.ints (ep g i).ints) (Ju g (ez g i).loc) 0;bif cq p 0 then-1 else wr .i64 (Int.add p 1))
def rD (g:XG):Rn:=fun i j=>bif (bif H (ep g i).cH 0 then cq 0 (ep g j).cH else false) then true else bif cq 0 (ep g i).cH then(bif H (ep g i).cH (ep g j).cH then cq (ep g i).index (ep g j).index else false) else false
def Bh (g:XG):Rn:=fun i j=>H (kS g j) (.ofNat i)
def yB (g:XG):Rn:=fun i j=>bif bd (ez g i) then(bif bd (ez g j) then(bif H (ez g i).loc (ez g j).loc then cq (jB g i) (jB g j) else false) else false) else false
def DW (g:XG):Rn:=fun i j=>bif bf (H (.ofNat i) (.ofNat j)) then(bif cD (ez g i) then yB g (kS g i).toNat j else false) else false
def x9 (g:XG):Rn:=fun i j=>bif bf (H (.ofNat i) (.ofNat j)) then(bif bf (H (ez g i).kind 4) then(bif bf (H (ez g j).kind 4) then H (ez g i).loc (ez g j).loc else false) else false) else false
def Dj (g:XG) (i:Nat):Bool:=bif H (ez g i).order 3 then true else bif H (ez g i).order 5 then true else H (ez g i).order 6
def ED (g:XG) (i:Nat):Bool:=bif H (ez g i).order 4 then true else bif H (ez g i).order 5 then true else H (ez g i).order 6
theorem Iu {g:XG} {id:bT} {e:bW} (h:cZ g id=some e):0<=id.index:=by
 obtain⟨th,ix⟩:=id;cases ix with
 | ofNat k=>exact Int.natCast_nonneg k
 | negSucc k=>cases th with
  | ofNat t=>cases t<;>simp[cZ] at h
  | negSucc t=>simp[cZ] at h
theorem yQ {g:XG} (M:dD g) {i:Nat} (hi:i<nV g) (G:cD (ez g i)=true):∃(t k:Nat) (row:List bW) (e:bW) (frow:List bT) (q:bT),ep g i=⟨.ofNat (t+1),.ofNat k⟩/\g.threads[t]?=some row/\row[k]?=some e/\ez g i=e/\g.from_[t]?=some frow/\frow[k]?=some q/\Ld g (ep g i)=q/\∃f,f<nV g/\ep g f=q/\bd (ez g f)=true/\(ez g f).loc=(ez g i).loc/\q≠ep g i:=by
 rcases jv hi with ⟨x,v,h1,C,h3⟩ | ⟨t,k,row,e,h1,C,h3,h4⟩
 ·rw[h3] at G;exact Bool.noConfusion (show false=true from G)
 obtain⟨frow,z⟩:∃frow,g.from_[t]?=some frow:=⟨_,gC (by rw[M.from_];exact(gA.1 C).1)⟩;obtain⟨hl,K⟩:=M.rows t row frow C z;obtain⟨q,hq⟩:∃q,frow[k]?=some q:=⟨_,gC (by rw[hl];exact(gA.1 h3).1)⟩;have hoke:=K k e q h3 hq;unfold uQ at hoke
 have b:cF g ⟨.ofNat (t+1),.ofNat k⟩ q=true:=by
  revert hoke;cases bm e (.ofNat g.init.length)<;>intro hoke
  ·exact Bool.noConfusion (show false=true from hoke)
  exact hoke
 have L:cZ g ⟨.ofNat (t+1),.ofNat k⟩=some e:=by rw[gk,C];exact h3
 rw[h4] at G;unfold cF at b;rw[L] at b;simp only[show mE (some e)=e from Z,G,Bool.not_true,cond_false] at b;cases Q:(cZ g q).isSome with
 | false=>rw[Q] at b;exact Bool.noConfusion (show false=true from b)
 | true=>
  obtain⟨w,hw⟩:=Option.isSome_iff_exists.1 Q;rw[hw] at b;simp only[Option.isSome_some,cond_true,show mE (some w)=w from Z] at b;cases d:bY [q.cH,q.index] [Int.ofNat (t+1),Int.ofNat k] with
  | true=>rw[d] at b;exact Bool.noConfusion (show false=true from b)
  | false=>
  rw[d] at b;simp only[cond_false,cond_true] at b;cases A:bd w with
  | false=>rw[A] at b;exact Bool.noConfusion (show false=true from b)
  | true=>
  rw[A] at b;simp only[cond_true] at b;cases B:H w.loc e.loc with
  | false=>rw[B] at b;exact Bool.noConfusion (show false=true from b)
  | true=>
  obtain⟨f,hf⟩:=gO_ (Lm hw<|Iu hw);have E:f<nV g:=(gA.1 hf).1;have F:ep g f=q:=Option.some.inj ((eT E).symm.trans hf);have u:ez g f=w:=by unfold ez;rw[F,hw];rfl
  refine⟨t,k,row,e,frow,q,h1,C,h3,h4,z,hq,?_,f,E,F,by rw[u];exact A,by rw[u,h4];rw[dK] at B;simpa using B,?_⟩
  ·unfold Ld;rw[h1];show((((g.from_[t]?).getD [])[k]?).getD ⟨0,0⟩)=q;rw[z];show((frow[k]?).getD ⟨0,0⟩)=q;rw[hq];rfl
  rw[h1];intro e;rw[e] at d;exact absurd Z<|kT.1 d
theorem jY {x y:bT}:bY x.ints y.ints=true↔x=y:=by
 rw[de];constructor
 ·intro h;obtain⟨a,b⟩:=x;obtain⟨c,d⟩:=y;have h: [a,b]= [c,d]:=h;simp at h;rw[h.1,h.2]
 intro h;rw[h]
theorem oz {g:XG} (z:dD g) {i:Nat} (hi:i<nV g) (u:cD (ez g i)=true):∃f,f<nV g/\kS g i= .ofNat f/\ep g f=Ld g (ep g i)/\bd (ez g f)=true/\(ez g f).loc=(ez g i).loc/\f≠i:=by
 obtain⟨t,k,row,e,frow,q,h1,h2,h3,h4,h5,h6,w,f,hf,b,hw,hl,d⟩:=yQ z hi u;refine⟨f,hf,?_,by rw[b,w],hw,hl,fun e=>d (by rw[<-b,e])⟩;unfold kS;rw[u,w]
 have:=sS (p:=fun x:bT=>bY x.ints q.ints) (l:=ie g) (i:=0) (n:=f) (by rw[eT hf,b]) (jY.2 Z) fun k y hk hy=>by
  cases A:bY y.ints q.ints with
  | false=>rfl
  | true=>
   rw[jY.1 A] at hy;have:=FK hy (by rw[eT hf,b]);omega
 rw[nA_] at this;exact this
theorem ze {g:XG} (hchk:cd g=0) {e:bW} (h:bm e (.ofNat g.init.length)=true) (hw:bd e=true):∃(ln:Nat) (r:List bT),e.loc= .ofNat ln/\g.order[ln]?=some r/\(bV g e.loc).length=r.length+1:=by
 unfold bm at h
 have h4:H e.kind 4=false:=by
  grind [bd,eqv]
 rw[h4] at h
 have key:(bif bf (cq e.loc 0) then cq e.loc (.ofNat g.init.length) else false)=true:=by
  simp_all
 cases h0:cq e.loc 0 with
 | true=>rw[h0] at key;cases key
 | false=>
  rw[h0] at key;obtain⟨ln,hl⟩:=iF h0;rw[hl] at key;have b:ln<g.init.length:=bk key;obtain⟨r,d⟩:=gx hchk b;exact⟨ln,r,hl,d,by rw[hl,ew (by rw[hchk];rfl) d];rfl⟩
section
variable {g:XG} {tm:Nat} {row:List bW} {frow:List bT} (hchk:cd g=0) (hx:g.threads[tm]?=some row) (hf:g.from_[tm]?=some frow) (hlen:cq (.ofNat row.length) 14=true) {e:bW} {fr:bT} {pl:Int}
include hchk hx hf hlen
end
section
variable {k:Nat} {l:List XC} {r:XM} {t:Nat} {c:XC} {row:List bW} (hinv:fz k l r) (hc:l[t]?=some c) (hrow:r.g.threads[t]?=some row)
include hinv hc hrow
end
end Go.Ev
namespace Go.Ev
section
variable [Env] {H_:Type}
def Fit (P:Program):Nat->TypeId->DataW H_->Prop
  | 0,_,_=>False
  | fuel+1,t,d=>
    match P.underlying t with
    | some .bool=>∃b,d= .lit (.bool b)
    | some (.int k)=>∃n,d= .lit (.int k n)
    | some .string=>∃s,d= .lit (.string s)/\s.length<=maxLen
    | some (.slice e)=>d= .nil∨∃elems spare,d= .slice elems spare/\∀x∈elems,Fit P fuel e x
    | some (.struct fs)=>∃parts,d= .agg parts/\parts.length=fs.size/\∀(i:Nat) (f:Field) (x:DataW H_),fs[i]?=some f->parts[i]?=some x->Fit P fuel f.type x
    | _=>True
theorem Ch {α β:Type} {f:α->Option β}:∀{l:List α} {ys:List β},l.mapM f=some ys->ys.length=l.length/\∀(i:Nat) (x:α),l[i]?=some x->∃y,ys[i]?=some y/\f x=some y
  | [],ys,h=>by simp_all
  | a::l,ys,h=>by
    simp only[List.mapM_cons,Option.bind_eq_bind,Option.bind_eq_some_iff,Option.pure_def,oJ_] at h;obtain⟨y,h1,r,b,rfl⟩:=h;obtain⟨k1,k2⟩:=Ch b
    grind
variable {enc:TypeId×Value->H_} {P:Program} {w:World}
theorem mR:∀(fuel:Nat) (t:TypeId) (cs:List Value) (d:DataW H_) (p:List MemPlace),DataW.trod enc P w 0 (fun _=>true) true fuel t cs=some (d,p)->Fit P fuel t d
  | 0,_,_,_,_,h=>by simp[DataW.trod] at h
  | fuel+1,t,cs,d,p,h=>by
    have ih:=mR fuel;unfold Fit;cases hu:P.underlying t with
    | none=>trivial
    | some u=>
      unfold DataW.trod at h;rw[hu] at h;cases u with
      | bool=>
        split at h<;>first | (rename_i he;cases he;done) | skip
        all_goals first
          | (cases h;exact⟨_,Z⟩)
          | cases h
      | int k=>
        split at h<;>first | (rename_i he;cases he;done) | skip
        all_goals first
          | (rename_i A k2 n he
             cases he;split at h
             · cases h;exact⟨_,Z⟩
             · cases h)
          | cases h
      | string=>
        split at h<;>first | (rename_i he;cases he;done) | skip
        all_goals first
          | (split at h
             · rename_i B;cases h;exact⟨_,Z,by rw[Array.length_toList];exact B⟩
             · cases h)
          | cases h
      | struct fs=>
        dsimp only at h⊢;split at h
        · obtain⟨xs,C,hx⟩:=oM_.1 h
          have b:d= .agg (xs.map (·.1)):=by have:=congrArg Prod.fst hx;simpa using this.symm
          obtain⟨A,k2⟩:=Ch C;refine⟨_,b,by simpa using A,fun i f x hf z=>?_⟩;obtain⟨y,hy,E⟩:=k2 i f (by rw[aT_];exact hf);rw[gM_,hy] at z;cases z;exact ih _ _ _ y.2 E
        · cases h
      | slice e=>
        split at h<;>first | (rename_i he;cases he;done) | skip
        · cases h;exact .inl Z
        · rename_i e' a len cap he
          cases he;dsimp only at h;rw[if_pos Z] at h;split at h
          · obtain⟨elems,F,K⟩:=Option.bind_eq_some_iff.1 h
            obtain⟨rest,_,b⟩:=oM_.1 K;have b:d= .slice (elems.map (·.1)) (rest.map (·.1)):=by have:=congrArg Prod.fst b;simpa using this.symm
            refine .inr ⟨_,_,b,fun x hx=>?_⟩;obtain⟨y,hy,rfl⟩:=List.mem_map.1 hx;obtain⟨i,hi⟩:=gO_ hy;obtain⟨A,k2⟩:=mm F;obtain⟨j,_,hj⟩:=k2 i y hi;obtain⟨c,_,L⟩:=Option.bind_eq_some_iff.1 hj;exact ih _ _ _ y.2 L
          · cases h
        all_goals cases h
      | _=>trivial
end
section
variable [Env] {P:Program} {G:Cx}
def vO (O:N):KP:=fun b o=>b<O.next/\O.m.get b=some o
theorem D.of (O:N):D O (vO O) []:=⟨fun b o h=>⟨h.1,h.2,fun e he=>by cases he⟩,fun e he=>(by cases he),List.Pairwise.nil⟩
theorem jK.OV {w w':World} {I I':dg} {O O':N} (h:eY I O w I' O' w') (z:kH O):jK w w':=
  ⟨h.os,h.out,h.tape,h.size,fun r d=>h.frame r d fun⟨b,o,l,h1,u,_⟩=>by rw[z b o h1] at u;cases u⟩
theorem BH (hm:P.follows .mixedOrders=true) (b:Bi P G) {I:dg} {O:N} {w:World} {f:Nat} {args:List V} {xs:Array Value} {R:V->N->Prop} (hi:Inv I O w) (d:GR I G) (u:kH O) (hx:dA I args xs.toList) (h:a8 P G f args O R):
    Calls P f xs w fun e w'=>∃v x O' I',e= .returned x/\jK w w'/\VR I' v x/\R v O':=by
  obtain⟨K,v,O',h1,z⟩:=h;exact pD (fuel:=K) hm b (h1 K<|nR_ _) hi d hx fun I' w' x _ st hv=>⟨v,x,O',I',Z,jK.OV st u,hv,z⟩
theorem kH.leaf:kH σ0:=fun b o h=>by
  have:(PT.leaf:PT cN).get b=some o:=h;rw[PT.ma] at this;cases this
theorem eA.fresh {I:dg} {O:N} {w:World} (hi:Inv I O w) {b:Nat} {o:cN} (h:O.m.get b=some o):b<O.next:=by
  rcases Nat.lt_or_ge b O.next with h' | h'
  · exact h'
  · rw[(hi.fresh b h').2] at h;cases h
end
section
variable {H_:Type}
def sW:DataW H_->Int
 | .lit (.int _ n)=>n
 | _=>0
def OR:DataW H_->List Nat
 | .lit (.string s)=>s.map UInt8.toNat
 | _=>[]
def jq:DataW H_->List (DataW H_)
 | .slice l _=>l
 | _=>[]
def eK (d:DataW H_) (i:Nat):DataW H_:=
 match d with
 | .agg ps=>ps.getD i .nil
 | _=>.nil
def HB:Nat->DataW H_->XE
 | 0,_=>.mk 0 0 [] []
 | 1,_=>.mk 0 0 [] []
 | k+2,d=>.mk (sW<|eK d 0) (sW<|eK d 1) (OR<|eK d 2) ((jq<|eK d 3).map<|HB k)
def NM (k:Nat) (d:DataW H_):XI:=⟨sW<|eK d 0,sW<|eK d 1,sW<|eK d 2,sW<|eK d 3,sW<|eK d 4,(jq<|eK d 5).map<|HB k⟩
def LZ (k:Nat) (d:DataW H_):XC:=⟨sW<|eK d 0,(jq<|eK d 1).map<|NM k⟩
end
section
variable [Env] {H_:Type} {P:Program} {O:N}
theorem nf {fuel:Nat} {t:TypeId} {d:DataW H_} {vs:List V} {k:IntKind} (hu:P.underlying t=some (.int k)) (hf:Fit P fuel t d) (b:eA P O fuel t d vs):vs= [.int k<|sW d]/\(Lit.int k<|sW d).wf=true:=by
 cases fuel with
 | zero=>exact hf.elim
 | succ fuel=>
  unfold Fit at hf;rw[hu] at hf;obtain⟨n,rfl⟩:=hf;unfold eA at b;rw[hu] at b;obtain⟨_,u,rfl⟩:=b;exact⟨Z,u⟩
theorem NL {fuel:Nat} {t:TypeId} {d:DataW H_} {vs:List V} (hu:P.underlying t=some .string) (hf:Fit P fuel t d) (b:eA P O fuel t d vs):vs= [.str<|OR d]:=by
 cases fuel with
 | zero=>exact hf.elim
 | succ fuel=>
  unfold Fit at hf;rw[hu] at hf;obtain⟨n,rfl,_⟩:=hf;unfold eA at b;rw[hu] at b;exact b.2
theorem nM {α:Type} {fuel:Nat} {t e:TypeId} {m:Nat} {d:DataW H_} {vs:List V} (F:DataW H_->α) (R:α->List V->Prop) (hu:P.underlying t=some (.slice e)) (hm:P.cellsOf e=m) (h1:1<=m) (z:∀(b:Nat) (o:cN),O.m.get b=some o->b<O.next) (hf:Fit P (fuel+1) t d) (u:eA P O (fuel+1) t d vs)
  (hR:∀x vs,Fit P fuel e x->eA P O fuel e x vs->R (F x) vs):∃v,vs= [v]/\bF (vO O) m R ((jq d).map F) v:=by
 unfold Fit at hf;rw[hu] at hf;dsimp only at hf;unfold eA at u;rw[hu] at u;rcases hf with rfl | ⟨elems,spare,rfl,aa⟩
 ·dsimp only at u;exact⟨_,u,.inl ⟨Z,Z⟩⟩
 dsimp only at u;rw[hm] at u;obtain⟨b,c,cells,e',rfl,k2,w,A,B,k6⟩:=u h1;refine⟨_,Z,.inr ⟨b,0,c,cells,e',true,by rw[show(jq<|DataW.slice elems spare).map F=elems.map F from Z,lM_],?_,⟨z b _ w,w⟩,?_,?_,fun i x hx=>?_⟩⟩
 ·rw[show(jq<|DataW.slice elems spare).map F=elems.map F from Z,lM_];rcases A with rfl | rfl
  ·exact .inr ⟨_,Z,Nat.le_add_right _ _⟩
  exact .inl Z
 ·rw[show(jq<|DataW.slice elems spare).map F=elems.map F from Z,lM_,B,nA_];exact nR_ _
 ·rw[show(jq<|DataW.slice elems spare).map F=elems.map F from Z,lM_];exact k2
 rw[show(jq<|DataW.slice elems spare).map F=elems.map F from Z,gM_,oM_] at hx
 grind
theorem qQ {fuel:Nat} {t:TypeId} {fs:Array Field} {d:DataW H_} {vs:List V} {m:Nat} (hu:P.underlying t=some (.struct fs)) (hc:P.cellsOf t=m) (ht:qe P fs.toList 0=some m) (hf:Fit P (fuel+1) t d) (b:eA P O (fuel+1) t d vs):
  vs.length=m/\∀(i:Nat) (f:Field),fs[i]?=some f->Fit P fuel f.type (eK d i)/\eA P O fuel f.type (eK d i) ((vs.drop f.offset).take<|P.cellsOf f.type):=by
 unfold Fit at hf;rw[hu] at hf;dsimp only at hf;obtain⟨parts,rfl,hn,aa⟩:=hf;unfold eA at b
 grind [eK]
theorem bF.I8 {α:Type} {K:KP} {m:Nat} {R R':α->List V->Prop} {l:List α} {v:V} (h:bF K m R l v) (b:∀x vs,R x vs->R' x vs):bF K m R' l v:=h.mono (KP.le_refl K) b
theorem jd.up {K:KP}:∀{k:Nat} {x:XE} {vs:List V},jd K k x vs->jd K (k+1) x vs
 | 0,x,_,h=>by cases x;exact h.elim
 | k+1,.mk op num name kids,vs,h=>by
  obtain⟨v,rfl,hk⟩:=h;exact⟨v,Z,hk.I8 fun x vs h=>jd.up h⟩
end
theorem GF {H_:Type} {enc:TypeId×Value->H_} {P:Program} {w w':World} {sp:Nat->Bool} (d:∀r:Nat,r<w.heap.size->w'.heap[r]?=w.heap[r]?) {fuel:Nat} {t:TypeId} {cs:List Value} {x:DataW H_×List MemPlace}
  (h:DataW.trod enc P w 0 sp true fuel t cs=some x):DataW.trod enc P w' 0 sp true fuel t cs=some x:=by
 refine DataW.trod_carry fuel t cs x h fun p hp=>?_
 have hlt:=DataW.trod_lt fuel t cs x h p hp;cases p with
 | cell b off=>
  show w'.cell? ⟨b,off,none⟩=w.cell? ⟨b,off,none⟩;unfold World.cell?;rw[d b hlt]
 | map b=>exact d b hlt
theorem sH {H_:Type} {enc:TypeId×Value->H_} {P:Program} {w w':World} {sp:Nat->Bool} (b:∀r:Nat,r<w.heap.size->w'.heap[r]?=w.heap[r]?):∀{ts:List TypeId} {vs:List Value} {ds:List (DataW H_)} {ps:List MemPlace},
  DataW.TrodAll enc P w 0 sp true ts vs ds ps->DataW.TrodAll enc P w' 0 sp true ts vs ds ps
 | [],[],[],_,h=>h
 | _::_,_::_,_::_,_,⟨p,q,⟨n,h1⟩,d,e⟩=>⟨p,q,⟨n,GF b h1⟩,sH b d,e⟩
theorem Cw {H_:Type} {enc:TypeId×Value->H_} {P:Program} (hl:laidOutB P=true) (hm:mapsRowed P=true) (d:((List.range P.types.size).all fun t=>match P.underlying t with | some (.slice e)=>decide (0<P.cellsOf e) | _=>true)=true) {w w':World} (hk:jK w w') {ts:List TypeId} {vs:List Value} {ds:List (DataW H_)} {ps:List MemPlace}
  (hT:(ts.all fun t=>decide (t<P.types.size))=true) (h:DataW.TrodAll enc P w 0 (fun _=>true) true ts vs ds ps) {sp:Nat->Bool} (b:∀p∈ps,sp p.block=true):DataW.TrodAll enc P w' 0 sp true ts vs ds ps:=
 sH hk.same (h.respare (kids_rows hl hm) (slices_full_of P d) (fun t u=>of_decide_eq_true (aE_.1 hT t u)) b)
end Go.Ev
namespace Go.Ev
variable [Env]
open Go.Proofs
set_option maxRecDepth 4000
set_option maxHeartbeats 8000000
theorem Gl {G:Cx} (W:Plain G) {K:KP} {l1 l2:List Int} {R S:V} {O:N} {L:Own} (ar:D O K L) (h1:bF K 1 (ek) l1 R) (T:bF K 1 (ek) l2 S)
     :a8 Tryz.prog G 50 [R,S] O fun v O'=>v= .bool (bY l1 l2)/\D O' K L:=by
  refine QO W Tryz.func50 Z<|Pz 9 Z<|Y Z (RC h1 Z Z Z (e:=2) Z) Z<|vQ 1 Z<|Y Z (RC T Z Z Z (e:=2) Z) Z<|Qi 3 Z<|aF Z (fun d=>?_) (fun d=>?_)
  · skip
    refine Qh 7 Z ?_;exact aB Z Z ⟨by first | rw[fc<|cC d] | (rw[fL u w (by simpa only[sL] using cC z)]) | rw[ey (dG<|bl d) (bz A) b],ar⟩
  · skip
    refine O1 9 Z ?_;obtain⟨LL1,ar,hLL1⟩:=ar.named;refine bh ([4,5]++rg 11 15) (fun j t O=>∃(i:Nat),j+i=l1.length/\(∀k,k<i->l1[k]?=l2[k]?)/\t.get 5=some (.int .i64 (.ofNat i))/\D O K LL1) (l1.length) ⟨0,Z,fun k hk=>absurd hk (nZ_ _),Z,ar⟩ ?_;clear ar;intro X t O aq hI;obtain⟨i,hj,b,Q,ar⟩:=hI;subst hLL1;obtain⟨oo,rfl⟩:=aq.q1 Q Z;refine Pz 5 Z<|Y Z (RC h1 Z Z Z (e:=2) Z) Z<|Qi 3 Z<|aF Z (fun A=>?_) (fun A=>?_)
    · skip
      refine Oi 5 Z<|aQ (l:=zp [0,1,2,3,4,5,6,7,8]) U U<|QW 2 Z ?_;obtain⟨ao,u,B⟩:=dH A;refine Rt (e:=2) (m:=1) h1 u Z Z Z Z Z (fun ap aa C ab E=>?_);obtain rfl:=E;refine aj Z Z (RE ar C Z Z) Z<|QW 2 Z ?_;obtain⟨aE,w⟩:=cT (show _<l2.length from by rw[<-dG (bl d)];exact B);refine Rt (e:=2) (m:=1) T w Z Z Z Z Z (fun a0 ac F am M=>?_);obtain rfl:=M;refine aj Z Z (RE ar F Z Z) Z<|Ql 3 Z<|aF Z (fun z=>?_) (fun z=>?_)
      · skip
        refine QT 6 Z<|aJ<|ay<|bD<|aJ<|ay (?_);exact aB Z Z ⟨by first | rw[fc<|cC d] | (rw[fL u w (by simpa only[sL] using cC z)]) | rw[ey (dG<|bl d) (bz A) b],ar⟩
      · skip
        refine aH<|aG<|QR 5 Z<|aL ⟨X-1,by omega,oF,i+1,by omega,kj b u w (by simpa only[sL] using bl z),cI<|aY (by have:=h1.bL;omega),ar⟩
    · skip
      refine PC 3 Z<|aS<|QT 6 Z ?_;exact aB Z Z ⟨by first | rw[fc<|cC d] | (rw[fL u w (by simpa only[sL] using cC z)]) | rw[ey (dG<|bl d) (bz A) b],ar⟩
theorem Kf {G:Cx} (hG:Plain G) {K:KP} {l1 l2:List bW} {T W:V} {O:N} {L:Own} (ar:D O K L) (h1:bF K 5 (kJ) l1 T) (X:bF K 5 (kJ) l2 W)
     :a8 Tryz.prog G 51 [T,W] O fun v O'=>v= .bool (bY l1 l2)/\D O' K L:=by
  refine QO hG Tryz.func51 Z<|Pz 9 Z<|Y Z (RC h1 Z Z Z (e:=56) Z) Z<|vQ 1 Z<|Y Z (RC X Z Z Z (e:=56) Z) Z<|Qi 3 Z<|aF Z (fun d=>?_) (fun d=>?_)
  · skip
    refine Qh 7 Z ?_;exact aB Z Z ⟨by first | rw[fc<|cC d] | (rw[fL u w (by exact(bW.same (x:=B) (y:=C)).symm.trans<|cC z)]) | rw[ey (dG<|bl d) (bz A) b],ar⟩
  · skip
    refine O1 9 Z ?_;obtain⟨LL1,ar,hLL1⟩:=ar.named;refine bh ([4,5]++rg 11 15) (fun j t O=>∃(i:Nat),j+i=l1.length/\(∀k,k<i->l1[k]?=l2[k]?)/\t.get 5=some (.int .i64 (.ofNat i))/\D O K LL1) (l1.length) ⟨0,Z,fun k hk=>absurd hk (nZ_ _),Z,ar⟩ ?_;clear ar;intro j4 t O aq hI;obtain⟨i,hj,b,S,ar⟩:=hI;subst hLL1;obtain⟨oo,rfl⟩:=aq.q1 S Z;refine Pz 5 Z<|Y Z (RC h1 Z Z Z (e:=56) Z) Z<|Qi 3 Z<|aF Z (fun A=>?_) (fun A=>?_)
    · skip
      refine Oi 5 Z<|aQ (l:=zp [0,1,2,3,4,5,6,7,8]) U U<|QW 2 Z ?_;obtain⟨B,u,E⟩:=dH A;refine Rt (e:=56) (m:=5) h1 u Z Z Z Z Z (fun ao aa F ab M=>?_);obtain rfl:=M;refine aj Z Z (RF ar F Z Z) Z<|QW 2 Z ?_;obtain⟨C,w⟩:=cT (show _<l2.length from by rw[<-dG (bl d)];exact E);refine Rt (e:=56) (m:=5) X w Z Z Z Z Z (fun ap ac Q am R=>?_);obtain rfl:=R;refine aj Z Z (RF ar Q Z Z) Z<|aj Z Z (Da (n:=5) (ca:=[_,_,_,_,_]) (cb:=[_,_,_,_,_]) U Z Z Z Z) Z<|Ql 2 Z<|aF Z (fun z=>?_) (fun z=>?_)
      · skip
        refine QT 6 Z<|aJ<|ay<|bD<|aJ<|ay (?_);exact aB Z Z ⟨by first | rw[fc<|cC d] | (rw[fL u w (by exact(bW.same (x:=B) (y:=C)).symm.trans<|cC z)]) | rw[ey (dG<|bl d) (bz A) b],ar⟩
      · skip
        refine aH<|aG<|QR 5 Z<|aL ⟨j4-1,by omega,oF,i+1,by omega,kj b u w (by exact(bW.same (x:=B) (y:=C)).symm.trans<|bl z),cI<|aY (by have:=h1.bL;omega),ar⟩
    · skip
      refine PC 3 Z<|aS<|QT 6 Z ?_;exact aB Z Z ⟨by first | rw[fc<|cC d] | (rw[fL u w (by exact(bW.same (x:=B) (y:=C)).symm.trans<|cC z)]) | rw[ey (dG<|bl d) (bz A) b],ar⟩
theorem MC {G:Cx} (hG:Plain G) {K:KP} {l1 l2:List bT} {T W:V} {O:N} {L:Own} (ar:D O K L) (h1:bF K 2 (ji) l1 T) (X:bF K 2 (ji) l2 W)
     :a8 Tryz.prog G 41 [T,W] O fun v O'=>v= .bool (bY l1 l2)/\D O' K L:=by
  refine QO hG Tryz.func41 Z<|Pz 9 Z<|Y Z (RC h1 Z Z Z (e:=67) Z) Z<|vQ 1 Z<|Y Z (RC X Z Z Z (e:=67) Z) Z<|Qi 3 Z<|aF Z (fun d=>?_) (fun d=>?_)
  · skip
    refine Qh 7 Z ?_;exact aB Z Z ⟨by first | rw[fc<|cC d] | (rw[fL u w (by exact(bT.same (x:=B) (y:=C)).symm.trans<|cC z)]) | rw[ey (dG<|bl d) (bz A) b],ar⟩
  · skip
    refine O1 9 Z ?_;obtain⟨LL1,ar,hLL1⟩:=ar.named;refine bh ([4,5]++rg 11 15) (fun j t O=>∃(i:Nat),j+i=l1.length/\(∀k,k<i->l1[k]?=l2[k]?)/\t.get 5=some (.int .i64 (.ofNat i))/\D O K LL1) (l1.length) ⟨0,Z,fun k hk=>absurd hk (nZ_ _),Z,ar⟩ ?_;clear ar;intro j4 t O aq hI;obtain⟨i,hj,b,S,ar⟩:=hI;subst hLL1;obtain⟨oo,rfl⟩:=aq.q1 S Z;refine Pz 5 Z<|Y Z (RC h1 Z Z Z (e:=67) Z) Z<|Qi 3 Z<|aF Z (fun A=>?_) (fun A=>?_)
    · skip
      refine Oi 5 Z<|aQ (l:=zp [0,1,2,3,4,5,6,7,8]) U U<|QW 2 Z ?_;obtain⟨B,u,E⟩:=dH A;refine Rt (e:=67) (m:=2) h1 u Z Z Z Z Z (fun ao aa F ab M=>?_);obtain rfl:=M;refine aj Z Z (RF ar F Z Z) Z<|QW 2 Z ?_;obtain⟨C,w⟩:=cT (show _<l2.length from by rw[<-dG (bl d)];exact E);refine Rt (e:=67) (m:=2) X w Z Z Z Z Z (fun ap ac Q am R=>?_);obtain rfl:=R;refine aj Z Z (RF ar Q Z Z) Z<|aj Z Z (Da (n:=2) (ca:=[_,_]) (cb:=[_,_]) U Z Z Z Z) Z<|Ql 2 Z<|aF Z (fun z=>?_) (fun z=>?_)
      · skip
        refine QT 6 Z<|aJ<|ay<|bD<|aJ<|ay (?_);exact aB Z Z ⟨by first | rw[fc<|cC d] | (rw[fL u w (by exact(bT.same (x:=B) (y:=C)).symm.trans<|cC z)]) | rw[ey (dG<|bl d) (bz A) b],ar⟩
      · skip
        refine aH<|aG<|QR 5 Z<|aL ⟨j4-1,by omega,oF,i+1,by omega,kj b u w (by exact(bT.same (x:=B) (y:=C)).symm.trans<|bl z),cI<|aY (by have:=h1.bL;omega),ar⟩
    · skip
      refine PC 3 Z<|aS<|QT 6 Z ?_;exact aB Z Z ⟨by first | rw[fc<|cC d] | (rw[fL u w (by exact(bT.same (x:=B) (y:=C)).symm.trans<|cC z)]) | rw[ey (dG<|bl d) (bz A) b],ar⟩
theorem L3 {G:Cx} (hG:Plain G) {K:KP} {g1 d:XG} {a1 b1 c1 d1 a2 b2 c2 d2:V} {O:N} {L:Own} (ar:D O K L) (h1:eW K g1 a1 b1 c1 d1) (h2:eW K d a2 b2 c2 d2):
  a8 Tryz.prog G 17 [.agg [a1,b1,c1,d1],.agg [a2,b2,c2,d2]] O fun v O'=>v= .bool (bY g1 d)/\D O' K L:=by
 obtain⟨cb,R,S,T⟩:=h1;obtain⟨cc,a0,a3,a4⟩:=h2;refine QO hG Tryz.func17 Z<|Qg 2 Z<|kp ar Z (cG Z Z) (fun O b1 ar=>?_);refine kp ar Z (cG Z Z) (fun O b2 ar=>?_);refine O6 ar 10 [0,1,0,0] Z Z<|bc Z (Rx Z Z Z) (fun _=>Z) (Gl hG ar cb cc) (fun O ar=>?_);refine Y Z (dq Z) Z<|ky Z (an Z) (fun b=>?_) (fun b=>?_)
 ·refine PH 36 Z ?_;exact aB Z Z ⟨cB (by have u:bY g1.init d.init=false:=(by simpa using b);rw[mV];simp only[u,Bool.and_true,Bool.true_and,Bool.and_false,Bool.false_and]),ar.pop.pop⟩
 refine QY ar 2 [1,1] Z Z<|Y Z (RC R Z Z Z (e:=57) Z) Z<|QY ar 2 [1,0] Z Z<|Y Z (RC a0 Z Z Z (e:=57) Z) Z<|QV 2 Z<|ky Z (an Z) (fun w=>?_) (fun w=>?_)
 ·refine PH 27 Z ?_;exact aB Z Z ⟨cB (by have u:bY g1.init d.init=true:=(by simpa using b);have e1:=fc (cC w);rw[mV];simp only[u,e1,Bool.and_true,Bool.true_and,Bool.and_false,Bool.false_and]),ar.pop.pop⟩
 refine QY ar 2 [2,1] Z Z<|Y Z (RC S Z Z Z (e:=74) Z) Z<|QY ar 2 [2,0] Z Z<|Y Z (RC a3 Z Z Z (e:=74) Z) Z<|QV 2 Z<|ky Z (an Z) (fun z=>?_) (fun z=>?_)
 ·refine PH 18 Z ?_;exact aB Z Z ⟨cB (by have u:bY g1.init d.init=true:=(by simpa using b);have e2:=fc (cC z);rw[mV];simp only[u,e2,Bool.and_true,Bool.true_and,Bool.and_false,Bool.false_and]),ar.pop.pop⟩
 refine QY ar 2 [3,1] Z Z<|Y Z (RC T Z Z Z (e:=74) Z) Z<|QY ar 2 [3,0] Z Z<|Y Z (RC a4 Z Z Z (e:=74) Z) Z<|Qi 4 Z<|aF Z (fun W=>?_) (fun W=>?_)
 ·refine Qh 7 Z ?_;exact aB Z Z ⟨cB (by have u:bY g1.init d.init=true:=(by simpa using b);have e3:=fc (cC W);rw[mV];simp only[u,e3,Bool.and_true,Bool.true_and,Bool.and_false,Bool.false_and]),ar.pop.pop⟩
 refine O1 9 Z ?_;obtain⟨LL1,ar,hLL1⟩:=ar.named;refine bh ([4,5]++rg 41 19) (fun j t O=>∃(i:Nat),j+i=g1.threads.length/\(∀k,k<i->g1.threads[k]?=d.threads[k]?)/\t.get 5=some (.int .i64 (.ofNat i))/\D O K LL1) (g1.threads.length) ⟨0,Z,fun k hk=>absurd hk (nZ_ _),Z,ar⟩ ?_;clear ar;intro j4 t O aq hI;obtain⟨i,c5,X,ce,ar⟩:=hI;subst hLL1;obtain⟨oo,rfl⟩:=aq.q1 ce Z;refine PJ ar 6 [1,1] Z Z<|Y Z (RC R Z Z Z (e:=57) Z) Z<|Qi 3 Z<|aF Z (fun A=>?_) (fun A=>?_)
 ·refine Oi 5 Z<|aQ (l:=zp [0,1,2,3,4,5,6,7,8,9,10,11]) U U<|QZ ar 3 [1,1] Z Z ?_;obtain⟨c7,B,a5⟩:=dH A;refine Rt (e:=57) (m:=1) R B Z Z Z Z Z (fun c8 cl ba cn bb=>?_);have hr51':=bb;obtain⟨c9,rfl,be⟩:=hr51';refine aj Z Z (RE ar ba Z Z) Z<|QZ ar 3 [1,0] Z Z ?_;obtain⟨dd,C⟩:=cT (show _<d.threads.length from by rw[<-dG (bl w)];exact a5);refine Rt (e:=57) (m:=1) a0 C Z Z Z Z Z (fun dl co bi cp bo=>?_);have hr56':=bo;obtain⟨dm,rfl,bq⟩:=hr56';refine aj Z Z (RE ar bi Z Z) Z<|dJ Z Z (Rx Z Z Z) (fun _=>Z) (Kf hG ar be bq) (fun O ar=>?_);refine⟨aX,?_⟩;refine aj Z Z (dq Z) Z<|Ql 2 Z<|aF Z (fun ac=>?_) (fun ac=>?_)
  ·refine QT 6 Z<|aJ<|ay<|bD<|aJ<|ay (?_);exact aB Z Z ⟨cB (by have u:bY g1.init d.init=true:=(by simpa using b);have e1:=fL B C (by simpa using ac);rw[mV];simp only[u,e1,Bool.and_true,Bool.true_and,Bool.and_false,Bool.false_and]),ar.pop.pop⟩
  refine aH<|aG<|QR 5 Z<|aL ⟨j4-1,by omega,oF,i+1,by omega,kj X B C (by simpa using ac),cI<|aY (by have:=R.bL;omega),ar⟩
 refine PC 3 Z<|aS<|Qf 6 Z<|aM ?_;obtain⟨LL2,ar,hLL2⟩:=ar.named;refine bh ([4,6]++rg 60 19) (fun j t O=>∃(i2:Nat),j+i2=g1.from_.length/\(∀k,k<i2->g1.from_[k]?=d.from_[k]?)/\t.get 6=some (.int .i64 (.ofNat i2))/\D O K LL2) (g1.from_.length) ⟨0,Z,fun k hk=>absurd hk (nZ_ _),Z,ar⟩ ?_;clear ar;intro j9 t O aq hI;obtain⟨i2,dr,am,ch,ar⟩:=hI;subst hLL2;obtain⟨oo,rfl⟩:=aq.q1 ch Z;refine PJ ar 6 [2,1] Z Z<|Y Z (RC S Z Z Z (e:=74) Z) Z<|Qi 3 Z<|aF Z (fun aa=>?_) (fun aa=>?_)
 ·refine Oi 5 Z<|aQ (l:=zp [0,1,2,3,4,5,6,7,8,9,10,11]) U U<|QZ ar 3 [2,1] Z Z ?_;obtain⟨ds,E,br⟩:=dH aa;refine Rt (e:=74) (m:=1) S E Z Z Z Z Z (fun dx cr bs cs bt=>?_);have hr70':=bt;obtain⟨d0,rfl,bv⟩:=hr70';refine aj Z Z (RE ar bs Z Z) Z<|QZ ar 3 [2,0] Z Z ?_;obtain⟨d3,F⟩:=cT (show _<d.from_.length from by rw[<-dG (bl z)];exact br);refine Rt (e:=74) (m:=1) a3 F Z Z Z Z Z (fun d4 cv bw cw b0=>?_);have hr75':=b0;obtain⟨d5,rfl,b3⟩:=hr75';refine aj Z Z (RE ar bw Z Z) Z<|dJ Z Z (Rx Z Z Z) (fun _=>Z) (MC hG ar bv b3) (fun O ar=>?_);refine⟨aX,?_⟩;refine aj Z Z (dq Z) Z<|Ql 2 Z<|aF Z (fun ao=>?_) (fun ao=>?_)
  ·refine QT 6 Z<|aJ<|ay<|bD<|aJ<|ay (?_);exact aB Z Z ⟨cB (by have u:bY g1.init d.init=true:=(by simpa using b);have e1:=ey (dG<|bl w) (bz A) X;have e2:=fL E F (by simpa using ao);rw[mV];simp only[u,e1,e2,Bool.and_true,Bool.true_and,Bool.and_false,Bool.false_and]),ar.pop.pop⟩
  refine aH<|aG<|QR 5 Z<|aL ⟨j9-1,by omega,oF,i2+1,by omega,kj am E F (by simpa using ao),cI<|aY (by have:=S.bL;omega),ar⟩
 refine PC 3 Z<|aS<|Qf 6 Z<|aM ?_;obtain⟨LL3,ar,hLL3⟩:=ar.named;refine bh ([4,7]++rg 79 19) (fun j t O=>∃(i3:Nat),j+i3=g1.order.length/\(∀k,k<i3->g1.order[k]?=d.order[k]?)/\t.get 7=some (.int .i64 (.ofNat i3))/\D O K LL3) (g1.order.length) ⟨0,Z,fun k hk=>absurd hk (nZ_ _),Z,ar⟩ ?_;clear ar;intro ci t O aq hI;obtain⟨i3,cx,ab,ck,ar⟩:=hI;subst hLL3;obtain⟨oo,rfl⟩:=aq.q1 ck Z;refine PJ ar 6 [3,1] Z Z<|Y Z (RC T Z Z Z (e:=74) Z) Z<|Qi 3 Z<|aF Z (fun ap=>?_) (fun ap=>?_)
 ·refine Oi 5 Z<|aQ (l:=zp [0,1,2,3,4,5,6,7,8,9,10,11]) U U<|QZ ar 3 [3,1] Z Z ?_;obtain⟨d6,M,b4⟩:=dH ap;refine Rt (e:=74) (m:=1) T M Z Z Z Z Z (fun d7 cH b5 c0 b6=>?_);have hr89':=b6;obtain⟨d8,rfl,b7⟩:=hr89';refine aj Z Z (RE ar b5 Z Z) Z<|QZ ar 3 [3,0] Z Z ?_;obtain⟨d9,Q⟩:=cT (show _<d.order.length from by rw[<-dG (bl W)];exact b4);refine Rt (e:=74) (m:=1) a4 Q Z Z Z Z Z (fun ee c3 b8 c4 b9=>?_);have hr94':=b9;obtain⟨eg,rfl,ca⟩:=hr94';refine aj Z Z (RE ar b8 Z Z) Z<|dJ Z Z (Rx Z Z Z) (fun _=>Z) (MC hG ar b7 ca) (fun O ar=>?_);refine⟨aX,?_⟩;refine aj Z Z (dq Z) Z<|Ql 2 Z<|aF Z (fun aE=>?_) (fun aE=>?_)
  ·refine QT 6 Z<|aJ<|ay<|bD<|aJ<|ay (?_);exact aB Z Z ⟨cB (by have u:bY g1.init d.init=true:=(by simpa using b);have e1:=ey (dG<|bl w) (bz A) X;have e2:=ey (dG<|bl z) (bz aa) am;have e3:=fL M Q (by simpa using aE);rw[mV];simp only[u,e1,e2,e3,Bool.and_true,Bool.true_and,Bool.and_false,Bool.false_and]),ar.pop.pop⟩
  refine aH<|aG<|QR 5 Z<|aL ⟨ci-1,by omega,oF,i3+1,by omega,kj ab M Q (by simpa using aE),cI<|aY (by have:=T.bL;omega),ar⟩
 refine PC 3 Z<|aS<|QT 6 Z ?_;exact aB Z Z ⟨cB (by have u:bY g1.init d.init=true:=(by simpa using b);have e1:=ey (dG<|bl w) (bz A) X;have e2:=ey (dG<|bl z) (bz aa) am;have e3:=ey (dG<|bl W) (bz ap) ab;rw[mV];simp only[u,e1,e2,e3,Bool.and_true,Bool.true_and,Bool.and_false,Bool.false_and]),ar.pop.pop⟩
theorem Gp {G:Cx} (d:Plain G) {K:KP} (e:bW) {O:N} {L:Own} (ar:D O K L):a8 Tryz.prog G 110 [.agg<|ints e.ints] O fun v O'=>v= .bool (cD e)/\D O' K L:=by
 refine QO d Tryz.func110 Z<|Qg 2 Z<|kp ar Z (cG Z Z) (fun O b1 ar=>?_);refine PL ar 8 [0,0] Z Z<|ky Z (an Z) (fun b=>?_) (fun b=>?_)
 ·refine Qk 8 Z ?_;exact aB Z Z ⟨cB (by unfold cD;simp only[b,ct,cf]),ar.pop⟩
 refine Qp ar 8 [0,0] Z Z ?_;exact aB Z Z ⟨cB (by unfold cD;simp only[b,ct,cf]),ar.pop⟩
theorem jG {G:Cx} (d:Plain G) {K:KP} (e:bW) {O:N} {L:Own} (ar:D O K L):a8 Tryz.prog G 68 [.agg<|ints e.ints] O fun v O'=>v= .bool (bd e)/\D O' K L:=by
 refine QO d Tryz.func68 Z<|Qg 2 Z<|kp ar Z (cG Z Z) (fun O b1 ar=>?_);refine PL ar 8 [0,0] Z Z<|ky Z (an Z) (fun b=>?_) (fun b=>?_)
 ·refine Qk 8 Z ?_;exact aB Z Z ⟨cB (by unfold bd;simp only[b,ct,cf]),ar.pop⟩
 refine Qp ar 8 [0,0] Z Z ?_;exact aB Z Z ⟨cB (by unfold bd;simp only[b,ct,cf]),ar.pop⟩
theorem AU {G:Cx} (hG:Plain G) {K:KP} {g:XG} {a b c d:V} (h:eW K g a b c d) (th ix:Int) {O:N} {L:Own} (ar:D O K L):a8 Tryz.prog G 71 [.agg [a,b,c,d],.agg [.int .i64 th,.int .i64 ix]] O fun v O'=>v= .tuple [.agg<|ints (mE<|cZ g ⟨th,ix⟩).ints,.bool (cZ g ⟨th,ix⟩).isSome]/\D O' K L:=by
 have h':=h;obtain⟨hi,M,hf,ho⟩:=h';refine QO hG Tryz.func71 Z<|Qg 2 Z<|kp ar Z (cG Z Z) (fun O b1 ar=>?_);refine kp ar Z (cG Z Z) (fun O b2 ar=>?_);refine kp ar Z (RD (cs:=[J,J,J,J,J])) (fun O b3 ar=>?_);refine O6 ar 9 [0,1] Z Z<|ky Z (an Z) (fun h9=>?_) (fun h9=>?_)
 ·refine PF 17 Z (Y Z (Rw (places:=[(0,1),(1,1),(2,1),(3,1),(4,1)]) (zero:=[J,J,J,J,J]) (cs:=[_,_,_,_,_]) Z) Z<|bE ar Z (RG Z Z Z ar.g0 (m:=5) Z Z (cells':=[_,_,_,_,_]) Z) Z (fun O ar=>?_));refine PH 5 Z ?_;exact bC Z Z ar.g0 (m:=5) U Z Z ⟨by rw[tO h9];rfl,ar.pop.pop.pop⟩
 refine QY ar 4 [0,1,1,2] Z Z<|Y Z (RC M Z Z Z (e:=57) Z) Z<|QV 2 Z<|ky Z (an Z) (fun w=>?_) (fun w=>?_)
 ·refine PF 9 Z (Y Z (Rw (places:=[(0,1),(1,1),(2,1),(3,1),(4,1)]) (zero:=[J,J,J,J,J]) (cs:=[_,_,_,_,_]) Z) Z<|bE ar Z (RG Z Z Z ar.g0 (m:=5) Z Z (cells':=[_,_,_,_,_]) Z) Z (fun O ar=>?_));refine PH 5 Z ?_;exact bC Z Z ar.g0 (m:=5) U Z Z ⟨by rw[BP w];rfl,ar.pop.pop.pop⟩
 refine Qo ar 6 [1,1] Z Z<|aF Z (fun C=>?_) (fun C=>?_)
 ·refine Qg 2 Z (Y Z (Rw (places:=[(0,1),(1,1),(2,1),(3,1),(4,1)]) (zero:=[J,J,J,J,J]) (cs:=[_,_,_,_,_]) Z) Z<|bE ar Z (RG Z Z Z ar.g0 (m:=5) Z Z (cells':=[_,_,_,_,_]) Z) Z (fun O ar=>?_));refine PH 5 Z ?_;exact bC Z Z ar.g0 (m:=5) U Z Z ⟨by rw[qu C];rfl,ar.pop.pop.pop⟩
 obtain⟨tn,rfl⟩:=iF h9;obtain⟨ixn,rfl⟩:=iF C;refine O2 5 Z<|Qo ar 5 [0,1] Z Z<|aF Z (fun z=>?_) (fun z=>?_)
 ·obtain rfl:tn=0:=by rw[dK] at z;simpa using z
  refine PJ ar 7 [1,1,0,2] Z Z<|Y Z (RC hi Z Z Z (e:=2) Z) Z<|Qi 3 Z<|aF Z (fun E=>?_) (fun E=>?_)
  ·refine Qg 2 Z (Y Z (Rw (places:=[(0,1),(1,1),(2,1),(3,1),(4,1)]) (zero:=[J,J,J,J,J]) (cs:=[_,_,_,_,_]) Z) Z<|bE ar Z (RG Z Z Z ar.g0 (m:=5) Z Z (cells':=[_,_,_,_,_]) Z) Z (fun O ar=>?_));refine Qk 4 Z<|ay<|ay (?_);exact bC Z Z ar.g0 (m:=5) U Z Z ⟨by rw[show cZ g _=none from by show(g.init[ixn]?).map _=_;rw[gN_<|nA E];rfl];rfl,ar.pop.pop.pop⟩
  refine PA 3 Z<|aQ (l:=zp [0,1,2,3,4,5,6,7,8,9,10]) U U<|QZ ar 6 [1,1,0,2,1,1] Z Z ?_;obtain⟨a4,A⟩:=cT (nD E);refine Rt (e:=2) (m:=1) hi A Z Z Z Z Z (fun a5 ao Q ap R=>?_);obtain rfl:=R;refine aj Z Z (RE ar Q Z Z) Z (aj Z Z (Rw (places:=[(0,1),(1,1),(2,1),(3,1),(4,1)]) (zero:=[J,J,J,J,J]) (cs:=[_,_,_,_,_]) Z) Z<|gF ar Z Z (RG Z Z Z ar.g0 (m:=5) Z Z (cells':=[_,_,_,_,_]) Z) Z (fun O ar=>?_));refine⟨aX,?_⟩;refine Qm 4 Z<|ay (?_);exact bC Z Z ar.g0 (m:=5) U Z Z ⟨by rw[show cZ g _=some _ from by show(g.init[ixn]?).map _=_;rw[A];rfl];rfl,ar.pop.pop.pop⟩
 obtain⟨tm,rfl⟩:=Gd z;refine PA 3 Z<|ak<|aQ (l:=zp [0,1,2,3,4,5,6,7,8,9,10]) U U<|QZ ar 7 [1,1,1,2,0,1] Z Z ?_;obtain⟨ba,u⟩:=cT (show tm<g.threads.length from by have:=ml w;omega);refine Rt (e:=57) (m:=1) M u Z Z Z Z (cI<|fv (by have:=ml w;have:=M.bL;omega)) (fun bb aq S aE T=>?_);have hr49':=T;obtain⟨be,rfl,W⟩:=hr49';refine aj Z Z (RE ar S Z Z) Z<|aj Z Z (RC W Z Z Z (e:=56) Z) Z<|Ql 3 Z<|aF Z (fun F=>?_) (fun F=>?_)
 ·refine Qg 2 Z (Y Z (Rw (places:=[(0,1),(1,1),(2,1),(3,1),(4,1)]) (zero:=[J,J,J,J,J]) (cs:=[_,_,_,_,_]) Z) Z<|bE ar Z (RG Z Z Z ar.g0 (m:=5) Z Z (cells':=[_,_,_,_,_]) Z) Z (fun O ar=>?_));refine PH 5 Z ?_;exact bC Z Z ar.g0 (m:=5) U Z Z ⟨by rw[show cZ g _=none from by show(g.threads[tm]?).bind _=_;rw[u];exact gN_<|nA F];rfl,ar.pop.pop.pop⟩
 refine PA 3 Z<|aQ (l:=zp [0,1,2,3,4,5,6,7,8,9,10,11,12]) U U<|QZ ar 5 [1,2,0,1] Z Z<|Rt (e:=57) (m:=1) M u Z Z Z Z (cI<|fv (by have:=ml w;have:=M.bL;omega)) (fun bi a0 X a1 aa=>?_);have hr59':=aa;obtain⟨bo,rfl,ab⟩:=hr59';refine aj Z Z (RE ar X Z Z) Z<|QZ ar 2 [1,1] Z Z ?_;obtain⟨bq,B⟩:=cT (nD F);refine Rt (e:=56) (m:=5) ab B Z Z Z Z Z (fun br a2 ac a3 am=>?_);obtain rfl:=am;refine aj Z Z (RF ar ac Z Z) Z<|gF ar Z Z (RG Z Z Z ar.g0 (m:=5) Z Z (cells':=[_,_,_,_,_]) Z) Z (fun O ar=>?_);refine⟨aX,?_⟩;refine Qm 4 Z ?_;exact bC Z Z ar.g0 (m:=5) U Z Z ⟨by rw[show cZ g _=some _ from by show(g.threads[tm]?).bind _=_;rw[u];exact B];rfl,ar.pop.pop.pop⟩
theorem AW {G:Cx} (M:Plain G) {K:KP} (e:bW) (n:Int) {O:N} {L:Own} (ar:D O K L):a8 Tryz.prog G 74 [.agg<|ints e.ints,.int .i64 n] O fun v O'=>v= .bool (bm e n)/\D O' K L:=by
 refine QO M Tryz.func74 Z<|Qg 2 Z<|kp ar Z (cG Z Z) (fun O b1 ar=>?_);refine O6 ar 9 [0,0] Z Z<|ky Z (an Z) (fun E=>?_) (fun E=>?_)
 ·refine PH 24 Z ?_;exact aB Z Z ⟨cB (by unfold bm bf;simp only[E,ct,cf]),ar.pop⟩
 refine QY ar 4 [0,0] Z Z<|ky Z (an Z) (fun b=>?_) (fun b=>?_)
 ·refine PH 19 Z ?_;exact aB Z Z ⟨cB (by unfold bm bf;simp only[E,b,ct,cf]),ar.pop⟩
 refine QY ar 4 [2,0] Z Z<|ky Z (an Z) (fun u=>?_) (fun u=>?_)
 ·refine PH 14 Z ?_;exact aB Z Z ⟨cB (by unfold bm bf;simp only[E,b,u,ct,cf]),ar.pop⟩
 refine Qo ar 6 [2,0] Z Z<|aF Z (fun w=>?_) (fun w=>?_)
 ·refine Qh 7 Z ?_;exact aB Z Z ⟨cB (by unfold bm bf;simp only[E,b,u,w,ct,cf]),ar.pop⟩
 refine O2 5 Z<|Y Z (RB Z ar.g0 (n:=5) (vs:=[_,_,_,_,_]) Z) Z<|bc Z (Rx Z Z Z) (fun _=>Z) (Gp M _ ar) (fun O ar=>?_);refine Y Z (dq Z) Z<|ky Z (an Z) (fun A=>?_) (fun A=>?_)
 ·refine QY ar 4 [3,0] Z Z<|ky Z (an Z) (fun F=>?_) (fun F=>?_)
  ·refine PH 19 Z ?_;exact aB Z Z ⟨cB (by unfold bm bf;simp only[E,b,u,w,A,F,ct,cf]),ar.pop⟩
  refine Y Z (RB Z ar.g0 (n:=5) (vs:=[_,_,_,_,_]) Z) Z<|bc Z (Rx Z Z Z) (fun _=>Z) (jG M _ ar) (fun O ar=>?_);refine Y Z (dq Z) Z<|ky Z (an Z) (fun z=>?_) (fun z=>?_)
  ·refine Qo ar 7 [4,0] Z Z<|aF Z (fun C=>?_) (fun C=>?_)
   ·refine Qh 7 Z ?_;exact aB Z Z ⟨cB (by unfold bm bf;simp only[E,b,u,w,A,F,z,C,ct,cf]),ar.pop⟩
   refine O2 5 Z<|Qo ar 5 [0,0] Z Z<|aF Z (fun d=>?_) (fun d=>?_)
   ·refine Qg 2 Z<|Qp ar 7 [1,0] Z Z<|ay (?_);exact aB Z Z ⟨cB (by unfold bm bf;simp only[E,b,u,w,A,F,z,C,d,ct,cf]),ar.pop⟩
   refine PK ar 7 [1,0] Z Z<|ky Z (an Z) (fun B=>?_) (fun B=>?_)
   ·refine Qp ar 9 [1,0] Z Z ?_;exact aB Z Z ⟨cB (by unfold bm bf;simp only[E,b,u,w,A,F,z,C,d,B,ct,cf]),ar.pop⟩
   refine Qk 9 Z ?_;exact aB Z Z ⟨cB (by unfold bm bf;simp only[E,b,u,w,A,F,z,C,d,B,ct,cf]),ar.pop⟩
  refine Qi 8 Z<|O2 5 Z<|Qo ar 5 [0,0] Z Z<|aF Z (fun d=>?_) (fun d=>?_)
  ·refine Qg 2 Z<|Qp ar 7 [1,0] Z Z<|ay (?_);exact aB Z Z ⟨cB (by unfold bm bf;simp only[E,b,u,w,A,F,z,d,ct,cf]),ar.pop⟩
  refine PK ar 7 [1,0] Z Z<|ky Z (an Z) (fun B=>?_) (fun B=>?_)
  ·refine Qp ar 9 [1,0] Z Z ?_;exact aB Z Z ⟨cB (by unfold bm bf;simp only[E,b,u,w,A,F,z,d,B,ct,cf]),ar.pop⟩
  refine Qk 9 Z ?_;exact aB Z Z ⟨cB (by unfold bm bf;simp only[E,b,u,w,A,F,z,d,B,ct,cf]),ar.pop⟩
 refine QV 5 Z<|Y Z (RB Z ar.g0 (n:=5) (vs:=[_,_,_,_,_]) Z) Z<|bc Z (Rx Z Z Z) (fun _=>Z) (jG M _ ar) (fun O ar=>?_);refine Y Z (dq Z) Z<|ky Z (an Z) (fun z=>?_) (fun z=>?_)
 ·refine Qo ar 7 [4,0] Z Z<|aF Z (fun C=>?_) (fun C=>?_)
  ·refine Qh 7 Z ?_;exact aB Z Z ⟨cB (by unfold bm bf;simp only[E,b,u,w,A,z,C,ct,cf]),ar.pop⟩
  refine O2 5 Z<|Qo ar 5 [0,0] Z Z<|aF Z (fun d=>?_) (fun d=>?_)
  ·refine Qg 2 Z<|Qp ar 7 [1,0] Z Z<|ay (?_);exact aB Z Z ⟨cB (by unfold bm bf;simp only[E,b,u,w,A,z,C,d,ct,cf]),ar.pop⟩
  refine PK ar 7 [1,0] Z Z<|ky Z (an Z) (fun B=>?_) (fun B=>?_)
  ·refine Qp ar 9 [1,0] Z Z ?_;exact aB Z Z ⟨cB (by unfold bm bf;simp only[E,b,u,w,A,z,C,d,B,ct,cf]),ar.pop⟩
  refine Qk 9 Z ?_;exact aB Z Z ⟨cB (by unfold bm bf;simp only[E,b,u,w,A,z,C,d,B,ct,cf]),ar.pop⟩
 refine Qi 8 Z<|O2 5 Z<|Qo ar 5 [0,0] Z Z<|aF Z (fun d=>?_) (fun d=>?_)
 ·refine Qg 2 Z<|Qp ar 7 [1,0] Z Z<|ay (?_);exact aB Z Z ⟨cB (by unfold bm bf;simp only[E,b,u,w,A,z,d,ct,cf]),ar.pop⟩
 refine PK ar 7 [1,0] Z Z<|ky Z (an Z) (fun B=>?_) (fun B=>?_)
 ·refine Qp ar 9 [1,0] Z Z ?_;exact aB Z Z ⟨cB (by unfold bm bf;simp only[E,b,u,w,A,z,d,B,ct,cf]),ar.pop⟩
 refine Qk 9 Z ?_;exact aB Z Z ⟨cB (by unfold bm bf;simp only[E,b,u,w,A,z,d,B,ct,cf]),ar.pop⟩
theorem C7 {G:Cx} (C:Plain G) {K:KP} {g:XG} {a b c d:V} (h:eW K g a b c d) (th ix fth fix_:Int) {O:N} {L:Own} (ar:D O K L):a8 Tryz.prog G 75 [.agg [a,b,c,d],.agg [.int .i64 th,.int .i64 ix],.agg [.int .i64 fth,.int .i64 fix_]] O fun v O'=>v= .bool (cF g ⟨th,ix⟩ ⟨fth,fix_⟩)/\D O' K L:=by
 have h':=h;obtain⟨hi,ht,hf,ho⟩:=h';refine QO C Tryz.func75 Z<|Qg 2 Z<|kp ar Z (cG Z Z) (fun O b1 ar=>?_);refine kp ar Z (cG Z Z) (fun O b2 ar=>?_);refine kp ar Z (cG Z Z) (fun O b3 ar=>?_);refine PF 5 Z<|Y Z (RB Z (ar.get 2 Z) (n:=4) (vs:=[_,_,_,_]) Z) Z<|Y Z (RB Z ar.g1 (n:=2) (vs:=[_,_]) Z) Z<|bc Z (Rx Z Z Z) (fun _=>Z) (AU C h _ _ ar) (fun O ar=>?_);refine QV 3 Z<|kp ar Z (RD (cs:=[J,J,J,J,J])) (fun O b4 ar=>?_);refine bE ar Z (RG Z Z Z ar.g0 (m:=5) Z Z (cells':=[_,_,_,_,_]) Z) Z (fun O ar=>?_);refine O4 6 Z<|Y Z (RB Z ar.g0 (n:=5) (vs:=[_,_,_,_,_]) Z) Z<|bc Z (Rx Z Z Z) (fun _=>Z) (Gp C _ ar) (fun O ar=>?_);refine Y Z (dq Z) Z<|Qi 2 Z<|aF Z (fun u=>?_) (fun u=>?_)
 ·refine Qg 2 Z (Y Z (RB Z ar.g1 (n:=2) (vs:=[_,_]) Z) Z (Y Z (Rw (places:=[(0,1),(1,1)]) (zero:=[J,J]) (cs:=[_,_]) Z) Z<|Y Z (zx (n:=2) (ca:=[_,_]) (cb:=[_,_]) U Z Z Z Z) Z<|PH 5 Z ?_));exact aB Z Z ⟨cB (by unfold cF;simp only[u,ct,cf]),ar.pop.pop.pop.pop⟩
 refine PB 4 Z<|Y Z (RB Z (ar.get 3 Z) (n:=4) (vs:=[_,_,_,_]) Z) Z<|Y Z (RB Z ar.g1 (n:=2) (vs:=[_,_]) Z) Z<|bc Z (Rx Z Z Z) (fun _=>Z) (AU C h _ _ ar) (fun O ar=>?_);refine QV 3 Z<|kp ar Z (RD (cs:=[J,J,J,J,J])) (fun O b5 ar=>?_);refine bE ar Z (RG Z Z Z ar.g0 (m:=5) Z Z (cells':=[_,_,_,_,_]) Z) Z (fun O ar=>?_);refine PF 6 Z<|ky Z (an Z) (fun w=>?_) (fun w=>?_)
 ·refine Y Z (RB Z (ar.get 2 Z) (n:=2) (vs:=[_,_]) Z) Z<|Y Z (RB Z (ar.get 3 Z) (n:=2) (vs:=[_,_]) Z) Z<|Y Z (Da (n:=2) (ca:=[_,_]) (cb:=[_,_]) U Z Z Z Z) Z<|vQ 1 Z<|ky Z (an Z) (fun z=>?_) (fun z=>?_)
  ·refine Y Z (RB Z ar.g0 (n:=5) (vs:=[_,_,_,_,_]) Z) Z<|bc Z (Rx Z Z Z) (fun _=>Z) (jG C _ ar) (fun O ar=>?_);refine vQ 1 Z<|ky Z (an Z) (fun A=>?_) (fun A=>?_)
   ·refine QY ar 6 [1,0,1,1] Z Z<|ky Z (an Z) (fun B=>?_) (fun B=>?_)
    ·refine Qp ar 10 [4,0,3,1] Z Z ?_;exact aB Z Z ⟨cB (by unfold cF;simp only[u,w,z,A,B,ct,cf]),ar.pop.pop.pop.pop.pop⟩
    refine Qk 10 Z ?_;exact aB Z Z ⟨cB (by unfold cF;simp only[u,w,z,A,B,ct,cf]),ar.pop.pop.pop.pop.pop⟩
   refine Qk 17 Z ?_;exact aB Z Z ⟨cB (by unfold cF;simp only[u,w,z,A,ct,cf]),ar.pop.pop.pop.pop.pop⟩
  refine Qk 21 Z ?_;exact aB Z Z ⟨cB (by unfold cF;simp only[u,w,z,ct,cf]),ar.pop.pop.pop.pop.pop⟩
 refine Qk 26 Z ?_;exact aB Z Z ⟨cB (by unfold cF;simp only[u,w,ct,cf]),ar.pop.pop.pop.pop.pop⟩
theorem vI:Dg Tryz.prog 165 67 3 2:=⟨by kernel_rfl,by kernel_rfl,by kernel_rfl,by kernel_rfl,fun k hk=>by
 match k,hk with
 | [a,b],_=>
  show mi Tryz.prog 67 (.agg<|ints [a,b])=true
  kernel_rfl⟩
theorem KU {ls:List (List bT)} {m1 m b:LM} {i d:Nat} {l:List bT} {x:bT} (h1:na ls 0 m1=na (ls.drop i) i b) (hx:ls[i]?=some l) (u:lB i l b=lB i (l.drop d) m) (hy:l[d]?=some x) (h:(fO m x.ints).isSome=false):na ls 0 m1=none:=by
 rw[h1,bX hx];show(lB i l b).bind _=none;rw[u,bX hy];show(bif (fO m x.ints).isSome then _ else none).bind _=none;rw[h];rfl
theorem KV {ls:List (List bT)} {m1 m b:LM} {i d:Nat} {l:List bT} {x:bT} (h1:na ls 0 m1=na (ls.drop i) i b) (hx:ls[i]?=some l) (u:lB i l b=lB i (l.drop d) m) (hy:l[d]?=some x) (h:(fO m x.ints).isSome=true) (h':H ((fO m x.ints).getD 0) (.ofNat i)=false):na ls 0 m1=none:=by
 rw[h1,bX hx];show(lB i l b).bind _=none;rw[u,bX hy];show(bif (fO m x.ints).isSome then(bif H ((fO m x.ints).getD 0) (.ofNat i) then _ else none) else none).bind _=none;rw[h,h'];rfl
theorem AX {G:Cx} (hG:Plain G) {K:KP} {g:XG} {a b c d:V} (h:eW K g a b c d) {O:N} {L:Own} (ar:D O K L):a8 Tryz.prog G 76 [.agg [a,b,c,d]] O fun v O'=>v= .bool (eR g)/\D O' K L:=by
 have h':=h;obtain⟨hi,ht,hf,ho⟩:=h';refine QO hG Tryz.func76 Z<|Qg 2 Z<|kp ar Z (cG Z Z) (fun O b1 ar=>?_);refine PF 5 Z<|OU ar Z HP (fun _=>Z) (fun O b2 ar=>?_);refine O6 ar 8 [1,1] Z Z (Y Z (RC ht Z Z Z (e:=57) Z) Z (PD 4 Z (bh (rg 4 4++rg 18 23) (fun j t O=>∃(i:Nat) (es:List fC) (ck:Nat) (m:LM),j+i=g.threads.length/\fp 2 es m/\pd g.threads 0 []=pd (g.threads.drop i) i m/\t.get 18=some (.int .i64 (.ofNat i))/\D O K ((b2,.map es ck)::(b1,.row [a,b,c,d] 26 false)::L)) (g.threads.length) ⟨0,[],0,[],Z,.nil,Z,Z,ar⟩ ?_)));clear ar;intro j3 t O aq X;obtain⟨i,es,ck,m,co,hm,aa,a3,ar⟩:=X;obtain⟨oo,rfl⟩:=aq.q1 a3 Z;refine Qf 6 Z<|aF Z (fun ab=>?_) (fun ab=>?_)
 ·refine Oj 7 Z ?_;obtain⟨E,W,b4⟩:=dH ab;refine Rr (e:=57) (m:=1) ht W Z Z Z Z (fun cp b5 a4 b6 a5=>?_);have hr21':=a5;obtain⟨cr,rfl,z⟩:=hr21';refine Y Z (RE ar a4 Z Z) Z<|PF 7 Z<|Y Z (RC z Z Z Z (e:=56) Z) Z<|vQ 1 Z ?_;generalize ac:m=m0 at hm aa;clear ac;refine PD 3 Z (bh ([6,7]++rg 25 15) (fun j t O=>∃(u:Nat) (es:List fC) (ck:Nat) (m:LM),j+u=E.length/\fp 2 es m/\qZ i E 0 m0=qZ i (E.drop u) u m/\t.get 25=some (.int .i64 (.ofNat u))/\D O K ((b2,.map es ck)::(b1,.row [a,b,c,d] 26 false)::L)) (E.length) ⟨0,es,ck,m0,Z,hm,Z,Z,ar⟩ ?_);clear ar;intro j6 t O aq X;obtain⟨u,es,ck,m,cv,hm,am,ba,ar⟩:=X;obtain⟨oo,rfl⟩:=aq.q1 ba Z;refine Qf 6 Z<|aF Z (fun ao=>?_) (fun ao=>?_)
  ·refine Oj 7 Z ?_;obtain⟨ap,F,b7⟩:=dH ao;refine Rr (e:=56) (m:=5) z F Z Z Z Z (fun cw b8 bb b9 be=>?_);obtain rfl:=be;refine Y Z (RF ar bb Z Z) Z<|kp ar Z (RD (cs:=[J,J,J,J,J])) (fun O b3 ar=>?_);refine vQ 1 Z<|bE ar Z (RG Z Z Z ar.g0 (m:=5) Z Z (cells':=[_,_,_,_,_]) Z) Z (fun O ar=>?_);refine PF 4 Z<|Y Z (RB Z ar.g0 (n:=5) (vs:=[_,_,_,_,_]) Z) Z<|bc Z (Rx Z Z Z) (fun _=>Z) (jG hG _ ar) (fun O ar=>?_);refine Qi 2 Z<|aF Z (fun aE=>?_) (fun aE=>?_)
   ·refine ai Z (QV 4 Z (Y Z (Rw (places:=[(0,1),(1,1)]) (zero:=[J,J]) (cs:=[_,_]) Z) Z<|QY ar 2 [1,0] Z Z<|Hg vI hm ar (k:=[_,_]) Z Z Z Z Z Z Z (fun O es ck ar hm=>?_)));replace hm:=(show fp 2 es (pM m [Int.ofNat (i+1),Int.ofNat u] ap.loc) from by rw[<-aY (i:=i) (by have:=ht.bL;omega)];exact hm);refine ah<|aG<|QR 4 Z ?_;have ar:=ar.pop;refine aL ⟨j6-1,by omega,oF,u+1,es,ck,_,by omega,hm,by rw[am,bX F];show qZ i _ (u+1) (wL i m u ap)=_;unfold wL;rw[aE];rfl,cI<|aY (by have:=z.bL;omega),ar⟩
   refine aH<|aG<|QR 4 Z ?_;have ar:=ar.pop;refine aL ⟨j6-1,by omega,oF,u+1,es,ck,_,by omega,hm,by rw[am,bX F];show qZ i _ (u+1) (wL i m u ap)=_;unfold wL;rw[aE];rfl,cI<|aY (by have:=z.bL;omega),ar⟩
  refine PC 3 Z<|aS<|aG<|QR 4 Z<|aL ⟨j3-1,by omega,oF,i+1,es,ck,m,by omega,hm,by rw[aa,bX W];show pd _ (i+1) (qZ i E 0 m0)=_;rw[am,ej<|bz ao];rfl,cI<|aY (by have:=ht.bL;omega),ar⟩
 refine PC 3 Z<|aS<|PJ ar 5 [3,1] Z Z<|Y Z (RC ho Z Z Z (e:=74) Z) Z<|vQ 1 Z ?_;have R:pd g.threads 0 []=m:=by rw[aa,ej<|bz ab];rfl
 generalize bv:m=m1 at hm R;clear bv;refine PD 3 Z (bh ([2,8,9,11,12,13]++rg 44 28) (fun j t O=>∃(i:Nat) (es:List fC) (ck:Nat) (m:LM),j+i=g.order.length/\fp 2 es m/\na g.order 0 m1=na (g.order.drop i) i m/\t.get 44=some (.int .i64 (.ofNat i))/\D O K ((b2,.map es ck)::(b1,.row [a,b,c,d] 26 false)::L)) (g.order.length) ⟨0,es,ck,m1,Z,hm,Z,Z,ar⟩ ?_);clear ar;intro bw t O aq X;obtain⟨i,es,ck,m,ca,hm,w,bi,ar⟩:=X;obtain⟨oo,rfl⟩:=aq.q1 bi Z;refine Qf 6 Z<|aF Z (fun a0=>?_) (fun a0=>?_)
 ·refine Oj 7 Z ?_;obtain⟨M,A,cb⟩:=dH a0;refine Rr (e:=74) (m:=1) ho A Z Z Z Z (fun cx cc bo ce bq=>?_);have hr47':=bq;obtain⟨cH,rfl,Q⟩:=hr47';refine Y Z (RE ar bo Z Z) Z<|PF 7 Z<|Y Z (RC Q Z Z Z (e:=67) Z) Z<|vQ 1 Z ?_;generalize ac:m=m0 at hm w;clear ac;refine PD 3 Z (bh ([2,11,12,13]++rg 51 20) (fun j t O=>∃(u:Nat) (es:List fC) (ck:Nat) (m:LM),j+u=M.length/\fp 2 es m/\lB i M m0=lB i (M.drop u) m/\t.get 51=some (.int .i64 (.ofNat u))/\D O K ((b2,.map es ck)::(b1,.row [a,b,c,d] 26 false)::L)) (M.length) ⟨0,es,ck,m0,Z,hm,Z,Z,ar⟩ ?_);clear ar;intro b0 t O aq X;obtain⟨u,es,ck,m,ch,hm,B,br,ar⟩:=X;obtain⟨oo,rfl⟩:=aq.q1 br Z;refine Qf 6 Z<|aF Z (fun a1=>?_) (fun a1=>?_)
  ·refine Oj 6 Z ?_;obtain⟨S,C,ci⟩:=dH a1;refine Rr (e:=67) (m:=2) Q C Z Z Z Z (fun c0 cl bs cn bt=>?_);obtain rfl:=bt;refine Y Z (RF ar bs Z Z) Z<|kp ar Z (RD (cs:=[J,J])) (fun O b3 ar=>?_);refine bE ar Z (RG Z Z Z ar.g0 (m:=2) Z Z (cells':=[_,_]) Z) Z (fun O ar=>?_);refine O4 6 Z<|Y Z (RB Z ar.g0 (n:=2) (vs:=[_,_]) Z) Z<|Y Z (Kx vI hm ar.g1 (k:=[_,_]) Z Z Z) Z<|PF 10 Z<|Y Z (dq Z) Z<|ky Z (an Z) (fun T=>?_) (fun T=>?_)
   ·refine Qk 13 Z<|ay<|aJ<|ay<|bD<|aJ<|aJ<|ay<|bD<|aJ<|ay (?_);exact aB Z Z ⟨cB (by unfold eR;rw[show na g.order 0 (pd g.threads 0 [])=none from by rw[R];exact KU w A B C<|mn T]),ar.pop.pop.pop⟩
   refine Qi 6 Z<|aF Z (fun a2=>?_) (fun a2=>?_)
   ·refine QT 6 Z<|ay<|aJ<|ay<|bD<|aJ<|aJ<|ay<|bD<|aJ<|ay (?_);exact aB Z Z ⟨cB (by unfold eR;rw[show na g.order 0 (pd g.threads 0 [])=none from by rw[R];exact KV w A B C (fX T)<|cC a2]),ar.pop.pop.pop⟩
   refine aH<|ad<|ai Z<|vQ 1 Z<|Y Z (RB Z ar.g0 (n:=2) (vs:=[_,_]) Z) Z<|Hf vI hm ar (k:=[_,_]) Z Z Z Z Z Z Z Z Z (fun O es ar hm=>?_);refine ah<|aG<|QR 4 Z ?_;have ar:=ar.pop;refine aL ⟨b0-1,by omega,oF,u+1,es,ck,_,by omega,hm,by rw[B,bX C];show(bif (fO m S.ints).isSome then _ else none)=_;rw[show(fO m S.ints).isSome=true from fX T];show(bif H ((fO m S.ints).getD 0) (Int.ofNat i) then _ else none)=_;rw[show H ((fO m S.ints).getD 0) (Int.ofNat i)=true from bl a2];rfl,cI<|aY (by have:=Q.bL;omega),ar⟩
  refine PC 3 Z<|aS<|aG<|QR 4 Z<|aL ⟨bw-1,by omega,oF,i+1,es,ck,m,by omega,hm,by rw[w,bX A];show(lB i M m0).bind _=_;rw[B,ej<|bz a1];rfl,cI<|aY (by have:=ho.bL;omega),ar⟩
 refine PC 3 Z<|aS<|Qg 3 Z<|Y Z (Kw vI hm ar.g0 Z Z Z Z) Z<|Qk 5 Z ?_;exact aB Z Z ⟨cB (by unfold eR;rw[show na g.order 0 (pd g.threads 0 [])=some m from by rw[R];exact by rw[w,ej<|bz a0];rfl]),ar.pop.pop⟩
end Go.Ev
end
