/- Part of the proof: rules and walks. No conditions. -/
import Derived.Test.YtjnonkhfgnihfaaGreatDoorEb
import Derived.KernelRfl
import Derived.Test.YtjnonkhfgnihfaaGreatDoorProg
import Derived.ReadAgain
import Derived.ProofKit
set_option linter.unusedSectionVars false
set_option linter.unusedVariables false
set_option linter.unusedSimpArgs false
noncomputable section
open Nat (add_zero beq_refl ble div_le_self lt_of_le_of_lt mul_one succ_mul zero_le)
open List (any_cons drop_take filter_append filter_cons filter_eq_nil_iff length_range map_append map_cons nodup_cons nodup_nil range range_succ replicate sum_cons take_zero)
open Int (fdiv tmod toNat)
set_option maxHeartbeats 8000000
set_option maxRecDepth 20000
open Go.Proofs
namespace Go.Ev
variable [Env]
variable {ts:Array y_} {Zv cv vs:List U} {bv e j:Nat} {x:q_}
section
variable {P:q6} {G:Cx} {ev:q_->Option U} {V:aF} {K:KP} {L:Own}
theorem lP {t:y_} {i:q_} {s:List Nat} {n c:Nat} {k:w0} (d:P.underlying t=some .string) (hx:ev x=some (.str s)) (hi:ev i=some (.int k (.ofNat n))) (w:s[n]? =some c):dX P G ev V (.index t x i)= .val (.int .u8 (.ofNat c)) V:=by
 refine bx Z ?_;simp only[dO,d,hx,hi,fN,w]
theorem eX {t n m off:Nat} {b:Pos} {i:q_} {k:w0} (d:P.underlying t=some (.array n e)) (hj:(P.info? e).map (·.size)=some m) (hx:ev x=some (.ptr b off)) (hi:ev i=some (.int k (.ofNat j))) (hn:j<n):dX P G ev V (.indexAddr t x i)= .val (.ptr b (off+j*m)) V:=by
 refine bx Z ?_;obtain⟨q,hq,rfl⟩:=oM_.1 hj;simp only[dO,d,hx,hi,hq,show ble (Nat.succ j) n=true by rw[nE_];exact hn,cond_true]
theorem bV {b:Pos} {off:Nat} (hx:ev x=some (.ptr b off)):dX P G ev V (.nilCheck x)= .val (.ptr b off) V:=bx Z (by simp only[dO,hx])
theorem eG {p:U} (hp:gH K p vs) (hx:ev x=some p):dX P G ev V (.nilCheck x)= .val p V:=by
 obtain⟨b,off,_,_,_,rfl,_⟩:=hp;exact bV hx
theorem gw {α:Type} {f:α->U} {l:List α} {i off:Nat} {x:α} (h:l[i]? =some x) (d:off=i):nth (l.map f) off=some (f x):=by
 subst d;rw[fN,gM_,h];rfl
theorem dL {α:Type} {f:α->U} {l:List α} {i off:Nat} {v:α} (h:i<l.length) (ho:off=i):dy [f v] (l.map f) off=(l.set i v).map f:=by
 grind [qg,List.map_set]
theorem gp {α:Type} {f:α->U} (v:α) (n:Nat):eC [f v] n=(replicate n v).map f:=by rw[iR,List.map_replicate]
end
def qB {α:Type} (m E:Nat) (R:α->List U->Prop) (l:List α) (u:U) (M:Own):Prop:=
 (l= []/\u= .ax/\M= [])∨∃(b:Nat) (c:ou) (cells:List U) (e:Nat),u= .slice b 0 l.length c/\M= [(b,.row cells e false)]/\l.length*m<=cells.length/\(∀(i:Nat) (x:α),l[i]? =some x->R x ((cells.drop (i*m)).take m))/\((∃n,c= .known n/\l.length<=n/\n*m<=cells.length)∨(c= .upto m/\e=E))/\l.length<=1048576
section
variable {α:Type} {m E:Nat} {R:α->List U->Prop} {l:List α} {u:U} {M:Own} {K:KP}
theorem cQ.Vj (h:cQ m E R l u M):qB m E R l u M:=by
 rcases h with h | ⟨b,c,cells,e,h1,d,h3,h4,h5,w⟩
 ·exact .inl h
 refine .inr ⟨b,c,cells,e,h1,d,by omega,h4,?_,w⟩
 grind
theorem qB.ib (h:qB m E R l u M) (hk:∀e∈M,K e.1 e.2):bS K m R l u:=by
 rcases h with ⟨h1,d,_⟩ | ⟨b,c,cells,e,rfl,rfl,h3,h4,h5,h6⟩
 ·exact .inl ⟨h1,d⟩
 refine .inr ⟨b,0,c,cells,e,false,Z,?_,hk _<|mS_ ..,by omega,by omega,fun i x hx=>by simp_all⟩;rcases h5 with ⟨n,h5,w,_⟩ | h5
 ·exact .inr ⟨_,h5,w⟩
 exact .inl h5.1
theorem HK {P:q6} {G:Cx} {ev:q_->Option U} {V:aF} {c:Call} {t e:y_} (h:qB m E R l u M) (d:c.callee= .builtin .len) (w:c.argTypes[0]? =some t) (z:c.args.toList= [x]) (hu:P.underlying t=some (.slice e)) (hx:ev x=some u):
  dX P G ev V (.call c)= .val (.int .i64 (.ofNat l.length)) V:=
 bh (K:=fun b o=>(b,o)∈M) (h.ib fun e he=>he) d w z hu hx
theorem qB.take (h:qB m E R l u M) {P:q6} {ev:q_->Option U} {t:y_} {x hi:q_} {kk:w0} {k:Nat} (hk:k<=l.length) (hu:P.underlying t=some (.slice E)) (hj:(P.info? E).map (·.size)=some m) (hx:ev x=some u) (hh:ev hi=some (.int kk (.ofNat k))):
  ∃u',ia P ev t x none (some hi) none=some u'/\qB m E R (l.take k) u' M:=by
 obtain⟨j,d,rfl⟩:=oM_.1 hj;rcases h with ⟨rfl,rfl,rfl⟩ | ⟨b,c,cells,e,rfl,rfl,h3,h4,h5,h6⟩
 ·obtain rfl:k=0:=by simpa using hk
  refine⟨.ax,?_,.inl ⟨Z,Z,Z⟩⟩;have:dw ev 0 0 none (some hi)=some (0,0):=qJ hh (nR_ _);simp only[ia,hu,hx,d,this]
 have hl:(l.take k).length=k:=by simp_all
 have w:∀(i:Nat) (x:α),(l.take k)[i]? =some x->R x ((cells.drop (i*j.size)).take j.size):=fun i x hi=>by
  grind
 have hle:k*j.size<=cells.length:=Nat.le_trans (nM_ _ hk) h3;rcases h5 with ⟨n,rfl,h7,z⟩ | ⟨rfl,rfl⟩
 ·refine⟨.slice b 0 k (.known n),?_,.inr ⟨b,.known n,cells,e,by rw[hl],Z,by rw[hl];exact hle,w,.inl ⟨n,Z,by rw[hl];omega,z⟩,by rw[hl];omega⟩⟩;have:dw ev l.length n none (some hi)=some (0,k):=qJ hh oM;simp only[ia,hu,hx,cutAt,this,cut,d]
  simp_all
 refine⟨.slice b 0 k (.upto j.size),?_,.inr ⟨b,.upto j.size,cells,e,by rw[hl],Z,by rw[hl];exact hle,w,.inr ⟨Z,Z⟩,by rw[hl];omega⟩⟩;have:dw ev l.length l.length none (some hi)=some (0,k):=qJ hh hk;simp only[ia,hu,hx,this,d,show Nat.beq j.size j.size=true from beq_refl _,cond_true,Nat.zero_mul,Nat.sub_zero,add_zero]
end
section
variable {α:Type} {m E:Nat} {R:α->List U->Prop}
theorem AB {l l2:List α} {cells news:List U} (hl:l.length*m<=cells.length) (h1:∀(i:Nat) (x:α),l[i]? =some x->R x ((cells.drop (i*m)).take m)) (hn:news.length=l2.length*m) (w:∀(i:Nat) (x:α),l2[i]? =some x->R x ((news.drop (i*m)).take m)):
  ∀(i:Nat) (x:α),(l++l2)[i]? =some x->R x (((cells.take (l.length*m)++(news++Zv)).drop (i*m)).take m):=by
 intro i x hx;have z:(cells.take (l.length*m)).length=l.length*m:=by simp_all
 by_cases hi:i<l.length
 ·rw[gL_ hi] at hx;have hle:(i+1)*m<=l.length*m:=nM_ _ hi
  grind [drop_take]
 rw[gR_ oM] at hx;have hlt:=(gA.1 hx).1;have hle:l.length*m<=i*m:=nM_ _ oM;have d:(i-l.length+1)*m<=l2.length*m:=nM_ _ hlt;rw[succ_mul] at d;rw[List.drop_append,List.drop_eq_nil_of_le oM,List.nil_append,z,<-Nat.sub_mul,List.drop_append_of_le_length oM,List.take_append_of_le_length (by grind)];exact w _ x hx
section
variable {P:q6} {K:KP} {L:Own}
theorem xf {l l2:List α} {u v2:U} {M:Own} {ev:Nat} {t:y_} {V:aF} (ho:qB m e R l u M) (O:F V K ((bv,.row cv ev false)::(M++L)))
  (hx:bS (K.add bv (.row cv ev false)) m R l2 v2) (d:∀x vs,R x vs->cF vs=true) (hn:l2.length<=1000) (S:1<=l2.length) (hl:l.length<=1000000)
  (ht:ts[0]? =some t) (hu:P.underlying t=some (.slice e)) (Q:sP P e m=true) (h2:dW P ts[1]? =true):
  ∃V' u' M',gu P V ts u v2= .val u' V'/\qB m e R (l++l2) u' M'/\F V' K (M'++L):=by
 have hk:=O.EI;have w:F V K (M++L):=hk.weaken (KP.tR _ _ _);rcases ho with ⟨rfl,rfl,rfl⟩ | ⟨b,c,cells,e',rfl,rfl,h3,h4,h5,h6⟩
 ·obtain⟨news,k1,k2,k3⟩:=sL (P:=P) hk hx d oM S ht hu Q h2;exact⟨_,_,[(V.next,.row news e false)],k1,.inr ⟨_,_,news,e,Z,Z,by simp_all,k3,.inr ⟨Z,Z⟩,by grind⟩,((hk.alloc (.row news e false)).weaken<|KP.tR _ _ _)⟩
 obtain⟨news,s1,s2,s3,s4⟩:=pC hk hx d;unfold sP at Q;split at Q
 ·rename_i j hj;simp only[bA_] at Q;obtain⟨a1,a2,a3,a4⟩:=Q;have hm:j.size=m:=nB a1;subst hm;have hz:((P.info? e).any fun j=>(j.zero.bind ra).any fun z=>(dg z).any fun cs=>Nat.beq (dK cs) j.size)=true:=by rw[hj];exact a4
  have hb:=w.get 0 Z;have hlen:(l++l2).length=l.length+l2.length:=lA_;have hmul:(l.length+l2.length)*j.size=l.length*j.size+l2.length*j.size:=Nat.add_mul ..;unfold gu;rw[ht];dsimp only;rw[hu];dsimp only;rw[hj];dsimp only;rw[h2,a2,a3];simp only[Bool.and_self,cond_true];rw[s1];dsimp only;rw[hj] at hz;rw[s3,show ble l2.length 1048576=true by rw[nE_];omega,hz];simp only[Bool.and_self,cond_true];have hle:ble (0+l.length*j.size) (dK cells)=true:=by rw[nE_,cH];omega
  have A:takeN (eP cells 0) (l.length*j.size)=cells.take (l.length*j.size):=by rw[ed,eR,List.drop_zero]
  have T:ble l.length 1048576=true:=by simp_all
  have hA:(cells.take (l.length*j.size)).length=l.length*j.size:=by simp_all
  have aa:l.length*j.size+news.length<=cells.length->dy news cells (0+l.length*j.size)=cells.take (l.length*j.size)++(news++cells.drop (l.length*j.size+news.length)):=fun hh=>by
   rw[nA_,lF _ _ _ oM,lQ_]
  have W:l.length*j.size+news.length<=cells.length->∀c',((∃n,c'=ou.known n/\(l++l2).length<=n/\n*j.size<=cells.length)∨(c'=ou.upto j.size/\e'=e))->qB j.size e R (l++l2) (.slice b 0 (l.length+l2.length) c') [(b,.row (dy news cells (0+l.length*j.size)) e' false)]:=fun hh c' C=>by
   have ab:(dy news cells (0+l.length*j.size)).length=cells.length:=by
    grind
   refine .inr ⟨b,c',_,e',by rw[hlen],Z,by simp_all,?_,by rw[ab];exact C,by rw[hlen];omega⟩;rw[aa hh];exact AB h3 h4 s2 s4
  have X:qB j.size e R (l++l2) (.slice V.next 0 (l.length+l2.length) (.upto j.size)) [(V.next,.row (cells.take (l.length*j.size)++news) e false)]:=by
   refine .inr ⟨_,_,_,e,by rw[hlen],Z,by simp_all,?_,.inr ⟨Z,Z⟩,by rw[hlen];omega⟩;have:=AB (Zv:=[]) h3 h4 s2 s4
   simp_all
  rcases h5 with ⟨n,rfl,h7,h8⟩ | ⟨rfl,rfl⟩
  ·dsimp only;cases hc:ble (l.length+l2.length) n with
   | true=>
    have C:l.length+l2.length<=n:=by simp_all
    have B:l.length*j.size+news.length<=cells.length:=by
     have:(l.length+l2.length)*j.size<=n*j.size:=nM_ _ C;rw[s2];omega
    simp only[cond_true];rw[hb];dsimp only;rw[show ble (0+l.length*j.size+dK news) (dK cells)=true by rw[nE_,cH,cH];omega];simp only[cond_true];exact⟨_,_,[(b,_)],Z,W B _ (.inl ⟨n,Z,by rw[hlen];exact C,h8⟩),w.vq _⟩
   | false=>
    simp only[cond_false];rw[hb];dsimp only;rw[hle,T,A,eD];simp only[Bool.and_self,cond_true];exact⟨_,_,[(V.next,_)],Z,X,((w.alloc _).perm<|List.Perm.swap ..).pop⟩
  dsimp only
  have:Nat.beq l2.length 0=false:=by
   grind [nB]
  rw[this,beq_refl,T];simp only[Bool.and_self,cond_true,cond_false];rw[hb];dsimp only;cases hf:(ble 1 l.length && ble (0+l.length*j.size+dK news) (dK cells)) with
  | true=>
   have B:l.length*j.size+news.length<=cells.length:=by
    rw[bA_,nE_,nE_,cH,cH] at hf;omega
   simp only[cond_true];exact⟨_,_,[(b,_)],Z,W B _ (.inr ⟨Z,Z⟩),w.vq _⟩
  | false=>
   simp only[cond_false];rw[hle,beq_refl,A,eD];simp only[Bool.and_self,cond_true];exact⟨_,_,[(V.next,_)],Z,X,w.zT _⟩
 cases Q
end
end
variable {G:Cx} {K:KP} {p:Nat->Bool} {V:aF}
abbrev Rn:=Nat->Nat->Bool
def bA:Nat->(Nat->Bool)->Nat
 | 0,_=>0
 | n+1,p=>bA n p ||| (bif p n then 2 ^ n else 0)
theorem dz:∀(n:Nat) (p:Nat->Bool) (j:Nat),(bA n p).testBit j=(decide (j<n) && p j)
 | 0,p,j=>by simp[bA]
 | n+1,p,j=>by
  unfold bA;rw[Nat.testBit_or,dz n p j]
  by_cases h:j=n
  ·subst h;cases hp:p j<;>simp[Nat.testBit_two_pow]
  have d:decide (j<n+1)=decide (j<n):=by simp;omega
  rw[d];cases hp:p n<;>simp[Nat.testBit_two_pow]<;>omega
theorem DO (n:Nat) (p:Nat->Bool):bA n p<2 ^ n:=by
 refine Nat.lt_pow_two_of_testBit _ fun i hi=>?_
 rw[dz];simp;omega
theorem cZ {n:Nat} (h:n<=64) (p:Nat->Bool):bA n p<2 ^ 64:=zh_ (DO n p) (Nat.pow_le_pow_right oM h)
theorem lU {n:Nat} {q:Nat->Bool} (h:∀j,j<n->p j=q j):bA n p=bA n q:=by
 refine Nat.eq_of_testBit_eq fun i=>?_
 rw[dz,dz]
 by_cases hi:i<n
 ·rw[h i hi]
 simp[hi]
theorem qI (n:Nat) (p q:Nat->Bool):bA n p ||| bA n q=bA n fun j=>p j || q j:=by
 refine Nat.eq_of_testBit_eq fun i=>?_
 rw[Nat.testBit_or,dz,dz,dz];cases decide (i<n)<;>simp
theorem AD (n:Nat) (p q:Nat->Bool):bA n p &&& bA n q=bA n fun j=>p j && q j:=by
 refine Nat.eq_of_testBit_eq fun i=>?_
 rw[Nat.testBit_and,dz,dz,dz];cases decide (i<n)<;>simp
theorem lh {n:Nat} (p:Nat->Bool) (h:j<n):bA n p ||| 2 ^ j=bA n fun k=>p k || decide (k=j):=by
 refine Nat.eq_of_testBit_eq fun i=>?_
 rw[Nat.testBit_or,dz,dz,Nat.testBit_two_pow]
 by_cases hi:i<n
 ·simp only[hi,decide_true,zp_];congr 1;simp[eq_comm]
 have:¬j=i:=by omega
 simp[hi,this]
theorem lj (n:Nat):bA n (fun _=>false)=0:=by
 refine Nat.eq_of_testBit_eq fun i=>?_
 rw[dz];simp
theorem rW {n:Nat} {q:Nat->Bool} (h:bA n p=bA n q) (hj:j<n):p j=q j:=by
 have:=congrArg (fun x=>x.testBit j) h;simp only[dz,hj,decide_true,zp_] at this;exact this
theorem SM (h:j<=9223372036854775807):wr .u64 (.ofNat j)= .ofNat j:=by
 have:Rb .u64 (.ofNat j)=true:=by show ble j 18446744073709551615=true;rw[nE_];omega
 unfold wr;rw[this];rfl
theorem xR (j:Nat):(2:Int) ^ j= .ofNat (2 ^ j):=by show(2:Int) ^ j=((2 ^ j:Nat):Int);rw[Int.natCast_pow];rfl
theorem tu {x:Nat} (h:j<64):N (tmod (fdiv (.ofNat x) (2 ^ min (toNat (.ofNat j)) 64)) 2) 1=x.testBit j:=by
 have e1:min (toNat (.ofNat j)) 64=j:=by show min j 64=j;omega
 rw[e1,xR]
 have d:fdiv (.ofNat x) (.ofNat (2 ^ j))= .ofNat (x/2 ^ j):=by
  show fdiv ((x:Nat):Int) ((2 ^ j:Nat):Int)=_;rw[Int.fdiv_eq_ediv_of_nonneg _<|Int.natCast_nonneg _];rfl
 rw[d];have u:tmod (.ofNat (x/2 ^ j)) 2= .ofNat (x/2 ^ j%2):=rfl;rw[u,Nat.testBit_eq_decide_div_mod_eq];show Nat.beq (x/2 ^ j%2) 1=_
 by_cases hh:x/2 ^ j%2=1
 ·rw[hh];rfl
 rw[decide_eq_false hh];cases hb:Nat.beq (x/2 ^ j%2) 1 with
 | false=>rfl
 | true=>exact absurd (nB hb) hh
section
variable {P:q6} {k:Bool} {ty:y_}
theorem HI {x:Nat} (h:x<2 ^ 64):IntKind.u64.wrap ((x:Nat):Int)= .ofNat x:=by
 unfold IntKind.wrap;show(let m:=((x:Nat):Int)%(2 ^ 64:Int);if false && _ then _ else m)=_;simp only[Bool.false_and,zi_,if_false];show((x:Nat):Int)%((2 ^ 64:Nat):Int)=((x:Nat):Int);rw[<-Int.natCast_emod,Nat.mod_eq_of_lt h]
theorem Ut {x:Nat} (h:x<2 ^ 64):wr .u64 (.ofNat x)= .ofNat x:=by
 unfold wr;cases Rb .u64 (.ofNat x) with
 | true=>rfl
 | false=>exact HI h
theorem OU {x:Nat} (h:x<2 ^ 64):(BitVec.ofInt 64 (.ofNat x)).toNat=x:=by
 rw[show BitVec.ofInt 64 (.ofNat x)=BitVec.ofNat 64 x from BitVec.ofInt_natCast ..,BitVec.toNat_ofNat,Nat.mod_eq_of_lt h]
theorem xn (h:j<64):qx P k .shl ty (.int .u64 1) (.int .u64 (.ofNat j))=some (.int .u64 (.ofNat (2 ^ j))):=by
 have e:min (toNat (.ofNat j)) 64=j:=by show min j 64=j;omega
 have:wr .u64 (1*2 ^ min (toNat (.ofNat j)) 64)= .ofNat (2 ^ j):=by
  rw[e,xR,Int.one_mul];exact Ut<|Nat.pow_lt_pow_right oM h
 cases k<;>exact congrArg (fun z=>some (U.int .u64 z)) this
theorem xA {x y:Nat} (hx:x<2 ^ 64) (d:y<2 ^ 64):qx P k .or ty (.int .u64 (.ofNat x)) (.int .u64 (.ofNat y))=some (.int .u64 (.ofNat<|x ||| y)):=by
 have:IntKind.u64.wrap (((BitVec.ofInt 64 (.ofNat x) ||| BitVec.ofInt 64 (.ofNat y)).toNat:Nat):Int)= .ofNat (x ||| y):=by
  rw[BitVec.toNat_or,OU hx,OU d];exact HI<|Nat.or_lt_two_pow hx d
 cases k<;>exact congrArg (fun z=>some (U.int .u64 z)) this
theorem tq {x y:Nat} (hx:x<2 ^ 64) (d:y<2 ^ 64):qx P k .and ty (.int .u64 (.ofNat x)) (.int .u64 (.ofNat y))=some (.int .u64 (.ofNat<|x &&& y)):=by
 have:IntKind.u64.wrap (((BitVec.ofInt 64 (.ofNat x) &&& BitVec.ofInt 64 (.ofNat y)).toNat:Nat):Int)= .ofNat (x &&& y):=by
  rw[BitVec.toNat_and,OU hx,OU d];exact HI<|Nat.and_lt_two_pow x d
 cases k<;>exact congrArg (fun z=>some (U.int .u64 z)) this
theorem fJ {ev:q_->Option U} {s d:y_} (hj:j<=9223372036854775807) (hk:kindOf P (.convert s d x)= .pure) (u:P.underlying s=some (.int .i64)) (w:P.underlying d=some (.int .u64)) (hx:ev x=some (.int .i64 (.ofNat j))):dX P G ev V (.convert s d x)= .val (.int .u64 (.ofNat j)) V:=by
 rw[iS hk u w hx,SM hj]
end
def gU (x:Nat):U:=.int .u64 (.ofNat x)
def RU (x:Nat) (vs:List U):Prop:=vs= [gU x]
def bp (n:Nat) (R:Rn):List Nat:=(range n).map fun i=>bA n (R i)
theorem bM (n:Nat) (R:Rn):(bp n R).length=n:=by unfold bp;simp
theorem dn {n i:Nat} {R:Rn} (h:i<n):(bp n R)[i]? =some (bA n<|R i):=by unfold bp;simp[h]
theorem cy {n:Nat} {R S:Rn} (h:∀i j,i<n->j<n->R i j=S i j):bp n R=bp n S:=by
 unfold bp;refine List.map_congr_left fun i hi=>?_
 exact lU fun j hj=>h i j (List.mem_range.1 hi) hj
theorem px {n:Nat} {R S:Rn} (h:bp n R=bp n S) {i:Nat} (hi:i<n) (hj:j<n):R i j=S i j:=by
 have:=congrArg (fun l=>l[i]?) h;simp only[dn hi,oJ_] at this;exact rW this hj
theorem uj (n:Nat):replicate n 0=bp n fun _ _=>false:=by
 refine zf_ fun k=>?_
 by_cases hk:k<n
 ·rw[dn hk,lj,List.getElem?_replicate,if_pos hk]
 rw[gN_ (by simpa using Nat.le_of_not_lt hk),gN_ (by rw[bM];omega)]
theorem mO {n i:Nat} {R:Rn}:(bp n R).set i (bA n p)=bp n fun a b=>bif a == i then p b else R a b:=by
 refine zf_ fun k=>?_
 rw[List.getElem?_set]
 by_cases hk:k<n
 ·rw[dn hk,bM,dn hk]
  by_cases e:i=k
  ·subst e;simp[hk]
  have:(k == i)=false:=by simp;omega
  simp[e,this]
 have h1:(bp n R)[k]? =none:=by rw[gN_];rw[bM];omega
 have d:(bp n fun a b=>bif a == i then p b else R a b)[k]? =none:=by rw[gN_];rw[bM];omega
 rw[h1,d,bM];split
 ·split
  ·omega
  rfl
 rfl
theorem dT {l:List Nat} {b n:Nat} {ro:Bool} (h:K b (.row (l.map gU) e ro)) (hn:l.length=n) (hle:n<=1000000):bS K 1 RU l (.slice b 0 n (.known n)):=by
 subst hn;refine .inr ⟨b,0,_,_,e,ro,Z,.inr ⟨_,Z,nR_ _⟩,h,by simp,by omega,fun i x hx=>?_⟩;obtain⟨h1,d⟩:=gA.1 hx;have h3:i<(l.map gU).length:=by rw[lM_];exact h1
 show((l.map gU).drop (0+i*1)).take 1= [gU x];rw[nA_,mul_one,zj_ h3,List.getElem_map,d];rfl
def I6 (K:KP) (n:Nat) (R:Rn) (vs:List U):Prop:=∃v,vs= [.int .i64 (.ofNat n),v]/\bS K 1 RU (bp n R) v
theorem I6.mono {K K':KP} {n:Nat} {R:Rn} {vs:List U} (h:I6 K n R vs) (hk:KP.le K K'):I6 K' n R vs:=let ⟨v,h1,d⟩:=h;⟨v,h1,d.mono hk fun _ _ h=>h⟩
theorem BK {n i:Nat} {R:Rn} (hj:j<n):(bp n R).set i (bA n (R i) ||| 2 ^ j)=bp n fun a b=>R a b || (a == i && b == j):=by
 rw[lh _ hj,mO];refine cy fun a b _ _=>?_
 by_cases e:a=i
 ·subst e;simp;rfl
 have:(a == i)=false:=by simp[e]
 simp[this]
inductive Tc (n:Nat) (R:Rn):Nat->Nat->Prop where
 | one {i j:Nat} (hi:i<n) (hj:j<n) (h:R i j=true):Tc n R i j
 | step {i j k:Nat} (h1:Tc n R i j) (h2:Tc n R j k):Tc n R i k
open Classical in
def kW (n:Nat) (R:Rn):Rn:=fun i j=>decide (Tc n R i j)
theorem kP {n:Nat} {R:Rn} {i:Nat}:kW n R i j=true↔Tc n R i j:=by unfold kW;simp
theorem Tc.lt {n:Nat} {R:Rn} {i:Nat} (h:Tc n R i j):i<n/\j<n:=by
 induction h with
 | one hi hj _=>exact⟨hi,hj⟩
 | step _ _ h1 d=>exact⟨h1.1,d.2⟩
theorem Tc.Fb {n:Nat} {R:Rn} {f:Nat->Nat} (hf:∀i j,i<n->j<n->R i j=true->f i<f j) {i:Nat} (h:Tc n R i j):f i<f j:=by
 induction h with
 | one hi hj h=>exact hf _ _ hi hj h
 | step _ _ h1 d=>exact Nat.lt_trans h1 d
def Kq (n:Nat) (R:Rn):Rn:=fun i k=>R i k || (range n).any fun j=>R i j && R j k
theorem NQ {n:Nat} {R:Rn} {i k:Nat} (h:R i k=true):Kq n R i k=true:=by unfold Kq;simp[h]
structure KM (n:Nat) (R S:Rn):Prop where
 low:∀i j,i<n->j<n->R i j=true->S i j=true
 high:∀i j,i<n->j<n->S i j=true->Tc n R i j
theorem KM.refl (n:Nat) (R:Rn):KM n R R:=⟨fun _ _ _ _ h=>h,fun _ _ hi hj h=>.one hi hj h⟩
theorem KM.sq {n:Nat} {R S:Rn} (h:KM n R S):KM n R (Kq n S):=by
 refine⟨fun i j hi hj hr=>NQ (h.low i j hi hj hr),fun i k hi hk d=>?_⟩;unfold Kq at d;simp only[Bool.or_eq_true,List.any_eq_true,List.mem_range,bA_] at d;rcases d with d | ⟨j,hj,h1,u⟩
 ·exact h.high i k hi hk d
 exact .step (h.high i j hi hj h1)<|h.high j k hj hk u
theorem KM.fix {n:Nat} {R S:Rn} (h:KM n R S) (he:bp n (Kq n S)=bp n S):bp n S=bp n (kW n R):=by
 refine cy fun i j hi hj=>?_
 have u:∀{i j},Tc n R i j->S i j=true:=by
  intro i j w;induction w with
  | one hi hj hr=>exact h.low _ _ hi hj hr
  | step d z h1 A=>
   rename_i i j k
   have:Kq n S i k=true:=by
    unfold Kq;simp only[Bool.or_eq_true,List.any_eq_true,List.mem_range,bA_];exact .inr ⟨j,d.lt.2,h1,A⟩
   rwa[px he d.lt.1 z.lt.2] at this
 cases hb:kW n R i j with
 | true=>exact u (kP.1 hb)
 | false=>
  cases B:S i j with
  | false=>rfl
  | true=>rw[kP.2<|h.high i j hi hj B] at hb;cases hb
def Jn (n:Nat) (R:Rn):Nat:=((range n).map fun i=>((range n).filter<|R i).length).sum
theorem O2 (n:Nat) (R:Rn):Jn n R<=n*n:=by
 unfold Jn
 have:∀l:List Nat,(l.map fun i=>((range n).filter<|R i).length).sum<=l.length*n:=by
  intro l;induction l with
  | nil=>simp
  | cons a l ih=>
   simp only[map_cons,sum_cons,zc_,succ_mul];have:=List.length_filter_le (R a) (range n);rw[length_range] at this;omega
 simpa using this (range n)
variable {parts:Array (Nat×q_)} {kk:w0} {Rs:List Rn} {cs:List U} {nn q:Nat} {io xo:q_} {T:Rn}
section
variable {P:q6} {G:Cx} {ev:q_->Option U} {V:aF}
theorem kS {t n m:Nat} {zero:List U} (d:P.underlying t=some (.array n e)) (hm:(P.info? e).map (·.size)=some m) (u:(fH P t).bind dg=some zero) (hf:kZ (fun i=>some (i*m,m)) ev parts.toList zero=some cs):dX P G ev V (.build t parts)= .val (.agg cs) V:=by
 refine bx Z ?_;obtain⟨j,hj,rfl⟩:=oM_.1 hm;simp only[dO,d,u,hj,hf,Option.map_some]
end
section
variable {P:q6} {G:Cx} {n i:Nat} {V:aF} {Q:Ex->PT U->aF->Prop} {ops:Array z_} {t:PT U} {o:z_} {K:KP}
theorem UA {l:List z_} {p:U} {ty m j:Nat} {t':U->PT U} (d:gH K p vs) (hw:bK ops t o=some true) (w:o.op= .indexAddr ty xo io) (hx:bz G t xo=some p) (u:bz G t io=some (.int kk (.ofNat j))) (z:P.underlying ty=some (.array nn e)) (hj:(P.info? e).map (·.size)=some m) (hn:j<nn) (hl:j*m<=vs.length) (hp:∀p,dG t n o.dst p=some (t' p))
  (h:∀p',gH K p' (vs.drop (j*m))->bP P G ops n l (t' p') V Q):bP P G ops n (o::l) t V Q:=by
 obtain⟨b,off,cells,e,ro,rfl,C,h3,h4⟩:=d;refine I hw ?_ (hp _)<|h _ ⟨b,off+j*m,cells,e,ro,Z,C,by rw[lD_];omega,?_⟩
 ·rw[w];exact eX z hj hx u hn
 rw[lD_]
 conv=>rhs;rw[<-h4]
 rw[drop_take,zl_]
theorem ss {l:List (Nat×List Nat)} {p:U} {ty m j:Nat} {t':U->PT U} (d:gH K p vs) (u:ops[i]? =some o) (hw:bK ops t o=some true) (z:o.op= .indexAddr ty xo io) (hx:bz G t xo=some p) (w:bz G t io=some (.int kk (.ofNat j))) (C:P.underlying ty=some (.array nn e)) (hj:(P.info? e).map (·.size)=some m) (hn:j<nn) (hl:j*m<=vs.length) (hp:∀p,dG t n o.dst p=some (t' p))
  (h:∀p',gH K p' (vs.drop (j*m))->cT P G ops n l (t' p') V Q):cT P G ops n ((i,[])::l) t V Q:=by
 obtain⟨b,off,cells,e,ro,rfl,E,h3,h4⟩:=d;refine aj u hw ?_ (hp _)<|h _ ⟨b,off+j*m,cells,e,ro,Z,E,by rw[lD_];omega,?_⟩
 ·rw[z];exact eX C hj hx w hn
 rw[lD_]
 conv=>rhs;rw[<-h4]
 rw[drop_take,zl_]
end
def RP (p:Nat×Nat) (vs:List U):Prop:=vs= [.int .i64 (.ofNat p.1),.int .i64 (.ofNat p.2)]
theorem RP.leaf:∀x vs,RP x vs->cF vs=true:=fun _ _ h=>by cases h;rfl
def xy (l:List (Nat×Nat)):Rn:=fun a b=>l.any fun p=>p.1 == a && p.2 == b
theorem Ij {n k a b:Nat} {l:List (Nat×Nat)} (h:l[k]? =some (a,b)) (hb:b<n):(bp n<|xy<|l.take k).set a (bA n (xy (l.take k) a) ||| 2 ^ b)=bp n (xy<|l.take (k+1)):=by
 rw[BK hb];refine cy fun x y _ _=>?_
 unfold xy;rw[zb_,h];simp only[List.any_append,Option.toList,any_cons,List.any_nil,Bool.or_false];have d:∀u v:Nat,(u == v)=(v == u):=fun u v=>by rw[zd_];simp only[beq_iff_eq];exact eq_comm
 rw[d x a,d y b]
def eV (n:Nat) (R:Rn) (i q:Nat):List (Nat×Nat):=((range i).flatMap fun a=>((range n).filter<|R a).map fun b=>(a,b))++((range q).filter<|R i).map fun b=>(i,b)
def jJ (n:Nat) (R:Rn):List (Nat×Nat):=(range n).flatMap fun a=>((range n).filter<|R a).map fun b=>(a,b)
theorem jM {n i:Nat} {R:Rn} (h:R i q=true):eV n R i q++[(i,q)]=eV n R i (q+1):=by
 unfold eV;rw[range_succ,filter_append,map_append,lQ_];simp[h]
theorem lB {n i:Nat} {R:Rn} (h:R i q=false):eV n R i q=eV n R i (q+1):=by
 unfold eV;rw[range_succ,filter_append,map_append];simp[h]
theorem jL {n i:Nat} {R:Rn}:eV n R i n=eV n R (i+1) 0:=by
 unfold eV;rw[range_succ,List.flatMap_append];simp
theorem n9 {n:Nat} {R:Rn}:eV n R n 0=jJ n R:=by unfold eV jJ;simp
theorem jK {n:Nat} {R:Rn}:∀{i q:Nat},(eV n R i q).length<=i*n+q:=by
 intro i q;unfold eV
 have h1:((range i).flatMap fun a=>((range n).filter<|R a).map fun b=>(a,b)).length<=i*n:=by
  induction i with
  | zero=>simp
  | succ i ih=>
   rw[range_succ,List.flatMap_append,lA_,succ_mul];have:=List.length_filter_le (R i) (range n);simp at this⊢;simp at ih;omega
 have h2:=List.length_filter_le (R i) (range q);rw[lA_,lM_];rw[length_range] at h2;omega
def iY (l:List Rn):Rn:=fun a b=>l.any fun R=>R a b
def Dz (S R:Rn) (i:Nat):Rn:=fun a b=>S a b || (decide (a<i) && R a b)
def Cg (A B:Rn) (i:Nat):Rn:=fun a b=>decide (a<i) && (A a b && B a b)
def sO (A B:Rn):Rn:=fun a b=>A a b && B a b
def nP (n:Nat) (A B:Rn):Rn:=fun a c=>(range n).any fun b=>A a b && B b c
def jS (n:Nat) (A B:Rn) (i j:Nat):Rn:=fun a c=>(decide (a<i) && nP n A B a c) || (decide (a=i) && (range j).any fun b=>A a b && B b c)
def km (R:Rn) (i j:Nat):Rn:=fun a b=>(decide (b<i) || (decide (b=i) && decide (a<j))) && R b a
def l8 (R:Rn):Rn:=fun a b=>R b a
section
variable {n i j k:Nat} {S R A B:Rn} {l:List Rn}
theorem Il:(bp n<|Dz S R i).set i (bA n (Dz S R i i) ||| bA n (R i))=bp n (Dz S R (i+1)):=by
 rw[qI,mO];refine cy fun a b _ _=>?_
 unfold Dz
 by_cases e:a=i
 ·subst e;simp
 have h1:(a == i)=false:=by simp[e]
 have d:decide (a<i+1)=decide (a<i):=by simp;omega
 simp[h1,d]
theorem EZ:bp n (Dz S R 0)=bp n S:=cy fun a b _ _=>by unfold Dz;simp
theorem EY (h:l[k]? =some R):bp n (Dz (iY<|l.take k) R n)=bp n (iY<|l.take (k+1)):=by
 refine cy fun a b d _=>?_
 unfold Dz iY;rw[zb_,h];simp[List.any_append,d]
theorem Ik:bp n (iY<|l.take 0)=bp n fun _ _=>false:=cy fun a b _ _=>by unfold iY;simp
theorem La:(bp n<|Cg A B i).set i (bA n (A i) &&& bA n (B i))=bp n (Cg A B (i+1)):=by
 rw[AD,mO];refine cy fun a b _ _=>?_
 unfold Cg
 by_cases e:a=i
 ·subst e;simp
 have h1:(a == i)=false:=by simp[e]
 have d:decide (a<i+1)=decide (a<i):=by simp;omega
 simp[h1,d]
theorem I8:bp n (Cg A B 0)=bp n fun _ _=>false:=cy fun a b _ _=>by unfold Cg;simp
theorem I7:bp n (Cg A B n)=bp n (sO A B):=cy fun a b d _=>by unfold Cg sO;simp[d]
theorem Jr (h:A i j=true):(bp n<|jS n A B i j).set i (bA n (jS n A B i j i) ||| bA n (B j))=bp n (jS n A B i (j+1)):=by
 rw[qI,mO];refine cy fun a c _ _=>?_
 unfold jS
 by_cases e:a=i
 ·subst e;simp[range_succ,h]
 have h1:(a == i)=false:=by simp[e]
 simp[h1,e]
theorem Ls (h:A i j=false):bp n (jS n A B i j)=bp n (jS n A B i (j+1)):=by
 refine cy fun a c _ _=>?_
 unfold jS
 by_cases e:a=i
 ·subst e;simp[range_succ,h]
 simp[e]
theorem Jq:bp n (jS n A B i n)=bp n (jS n A B (i+1) 0):=by
 refine cy fun a c _ _=>?_
 unfold jS nP
 by_cases e:a=i
 ·subst e;simp
 have d:decide (a<i+1)=decide (a<i):=by simp;omega
 simp[e,d]
theorem Gl:bp n (jS n A B 0 0)=bp n fun _ _=>false:=cy fun a c _ _=>by unfold jS;simp
theorem Gk:bp n (jS n A B n 0)=bp n (nP n A B):=cy fun a c d _=>by unfold jS;simp[d]
theorem KC (hi:i<n) (h:R i j=true):(bp n<|km R i j).set j (bA n (km R i j j) ||| 2 ^ i)=bp n (km R i (j+1)):=by
 rw[BK hi];refine cy fun a b _ _=>?_
 unfold km
 by_cases e:a=j
 ·subst e
  by_cases f:b=i
  ·subst f;simp[h]
  have h1:(b == i)=false:=by simp[f]
  simp[h1,f]
 have h1:(a == j)=false:=by simp[e]
 have d:decide (a<j+1)=decide (a<j):=by simp;omega
 simp[h1,d]
theorem N7 (h:R i j=false):bp n (km R i j)=bp n (km R i (j+1)):=by
 refine cy fun a b _ _=>?_
 unfold km
 by_cases e:a=j
 ·subst e
  by_cases f:b=i
  ·subst f;simp[h]
  simp[f]
 have d:decide (a<j+1)=decide (a<j):=by simp;omega
 simp[d]
theorem KB:bp n (km R i n)=bp n (km R (i+1) 0):=by
 refine cy fun a b d _=>?_
 unfold km
 by_cases f:b=i
 ·subst f;simp[d]
 have u:decide (b<i+1)=decide (b<i):=by simp;omega
 simp[f,u]
theorem HB:bp n (km R 0 0)=bp n fun _ _=>false:=cy fun a b _ _=>by unfold km;simp
theorem HA:bp n (km R n 0)=bp n (l8 R):=cy fun a b _ hb=>by unfold km l8;simp[hb]
theorem Rj:bp n (iY [S,nP n S S])=bp n (Kq n S):=cy fun a b _ _=>by unfold iY Kq nP;simp
theorem filter_lt {p q:Nat->Bool}:∀{l:List Nat},(∀x∈l,p x=true->q x=true)->(l.filter p).length<=(l.filter q).length/\((∃x∈l,p x=false/\q x=true)->(l.filter p).length<(l.filter q).length)
 | [],_=>⟨nR_ _,fun⟨x,hx,_⟩=>by cases hx⟩
 | y::l,h=>by
  obtain⟨h1,u⟩:=filter_lt (p:=p) (q:=q) (l:=l) fun x hx=>h x (mC_ _ hx)
  have h0:=h y (mS_ ..);cases hp:p y with
  | true=>
   have hq:=h0 hp;simp only[filter_cons,hp,hq,if_true,zc_];refine⟨by omega,fun⟨x,hx,d,hb⟩=>?_⟩;rcases mQ_.1 hx with rfl | hx
   ·rw[hp] at d;cases d
   have:=u ⟨x,hx,d,hb⟩;omega
  | false=>
   cases hq:q y with
   | true=>
    simp only[filter_cons,hp,hq,if_true,zc_,zi_,if_false];exact⟨by omega,fun _=>by omega⟩
   | false=>
    simp only[filter_cons,hp,hq,zi_,if_false];refine⟨h1,fun⟨x,hx,d,hb⟩=>?_⟩;rcases mQ_.1 hx with rfl | hx
    ·rw[hq] at hb;cases hb
    exact u ⟨x,hx,d,hb⟩
theorem NV {f g:Nat->Nat}:∀{l:List Nat},(∀x∈l,f x<=g x)->(l.map f).sum<=(l.map g).sum/\((∃x∈l,f x<g x)->(l.map f).sum<(l.map g).sum)
 | [],_=>⟨nR_ _,fun⟨x,hx,_⟩=>by cases hx⟩
 | y::l,h=>by
  obtain⟨h1,d⟩:=NV (f:=f) (g:=g) (l:=l) fun x hx=>h x (mC_ _ hx)
  have h0:=h y (mS_ ..);simp only[map_cons,sum_cons];refine⟨by omega,fun⟨x,hx,u⟩=>?_⟩;rcases mQ_.1 hx with rfl | hx
  ·omega
  have:=d ⟨x,hx,u⟩;omega
theorem O3 (hle:∀a b,a<n->b<n->S a b=true->R a b=true) (u:bp n S≠bp n R):Jn n S<Jn n R:=by
 unfold Jn;refine(NV fun a d=>(filter_lt fun b hb=>hle a b (List.mem_range.1 d) (List.mem_range.1 hb)).1).2 ?_
 by_cases hh:∃a b,a<n/\b<n/\S a b=false/\R a b=true
 ·obtain⟨a,b,d,hb,h1,z⟩:=hh;exact⟨a,List.mem_range.2 d,(filter_lt fun b hb=>hle a b d (List.mem_range.1 hb)).2 ⟨b,List.mem_range.2 hb,h1,z⟩⟩
 refine absurd (cy fun a b d hb=>?_) u;cases w:S a b with
 | true=>exact(hle a b d hb w).symm
 | false=>
  cases hr:R a b with
  | false=>rfl
  | true=>exact absurd ⟨a,b,d,hb,w,hr⟩ hh
end
theorem sB {K:KP} {n m b:Nat} {ro:Bool} {us:List U} (h:K b (.row (us.flatMap fun u=>[.int .i64 (.ofNat n),u]) e ro)) (hm:Rs.length=m) (hl:Rs.length=us.length) (hle:m<=1000000) (w:∀(i:Nat) (R:Rn),Rs[i]? =some R->∃u,us[i]? =some u/\bS K 1 RU (bp n R) u):bS K 2 (I6 K n) Rs (.slice b 0 m (.known m)):=by
 subst hm
 have hlen:∀us:List U,(us.flatMap fun u=>[U.int .i64 (.ofNat n),u]).length=us.length*2:=by
  intro us;induction us with
  | nil=>rfl
  | cons u us ih=>rw[List.flatMap_cons,lA_,ih,zc_];simp;omega
 have d:∀(us:List U) (i:Nat) (u:U),us[i]? =some u->((us.flatMap fun u=>[U.int .i64 (.ofNat n),u]).drop (i*2)).take 2= [.int .i64 (.ofNat n),u]:=by
  intro us;induction us with
  | nil=>intro i u h;simp at h
  | cons v us ih=>
   intro i u h;cases i with
   | zero=>simp at h;subst h;rfl
   | succ i=>
    rw[List.getElem?_cons_succ] at h;rw[<-ih i u h,List.flatMap_cons,succ_mul];rfl
 refine .inr ⟨b,0,_,_,e,ro,Z,.inr ⟨_,Z,nR_ _⟩,h,by rw[hlen];omega,by omega,fun i R hx=>?_⟩;obtain⟨u,hu,z⟩:=w i R hx;rw[nA_];exact⟨u,d us i u hu,z⟩
theorem IH {K:KP} {n b:Nat} {ro:Bool} {R:Rn} {u:U} (h:K b (.row [.int .i64 (.ofNat n),u] e ro)) (d:bS K 1 RU (bp n R) u):bS K 2 (I6 K n) [R] (.slice b 0 1 (.known 1)):=
 sB (us:=[u]) h Z Z (by decide) fun i R' hi=>by
  match i,hi with
  | 0,hi=>cases hi;exact⟨_,Z,d⟩
theorem qd {K:KP} {n b:Nat} {ro:Bool} {R S:Rn} {u v:U} (h:K b (.row [.int .i64 (.ofNat n),u,.int .i64 (.ofNat n),v] e ro)) (d:bS K 1 RU (bp n R) u) (w:bS K 1 RU (bp n S) v):bS K 2 (I6 K n) [R,S] (.slice b 0 2 (.known 2)):=
 sB (us:=[u,v]) h Z Z (by decide) fun i R' hi=>by
  match i,hi with
  | 0,hi=>cases hi;exact⟨_,Z,d⟩
  | 1,hi=>cases hi;exact⟨_,Z,w⟩
theorem BH {K:KP} {n b:Nat} {ro:Bool} {R S:Rn} {u v w:U} (h:K b (.row [.int .i64 (.ofNat n),u,.int .i64 (.ofNat n),v,.int .i64 (.ofNat n),w] e ro)) (d:bS K 1 RU (bp n R) u) (z:bS K 1 RU (bp n S) v) (hT:bS K 1 RU (bp n T) w):bS K 2 (I6 K n) [R,S,T] (.slice b 0 3 (.known 3)):=
 sB (us:=[u,v,w]) h Z Z (by decide) fun i R' hi=>by
  match i,hi with
  | 0,hi=>cases hi;exact⟨_,Z,d⟩
  | 1,hi=>cases hi;exact⟨_,Z,z⟩
  | 2,hi=>cases hi;exact⟨_,Z,hT⟩
theorem Fi {K:KP} {n b:Nat} {ro:Bool} {R S U_:Rn} {u v w x:U} (h:K b (.row [.int .i64 (.ofNat n),u,.int .i64 (.ofNat n),v,.int .i64 (.ofNat n),w,.int .i64 (.ofNat n),x] e ro)) (d:bS K 1 RU (bp n R) u) (z:bS K 1 RU (bp n S) v) (hT:bS K 1 RU (bp n T) w) (C:bS K 1 RU (bp n U_) x):bS K 2 (I6 K n) [R,S,T,U_] (.slice b 0 4 (.known 4)):=
 sB (us:=[u,v,w,x]) h Z Z (by decide) fun i R' hi=>by
  match i,hi with
  | 0,hi=>cases hi;exact⟨_,Z,d⟩
  | 1,hi=>cases hi;exact⟨_,Z,z⟩
  | 2,hi=>cases hi;exact⟨_,Z,hT⟩
  | 3,hi=>cases hi;exact⟨_,Z,C⟩
def lG (R:Rn):Nat->Rn
 | 0=>R
 | k+1=>fun i j=>lG R k i j || (lG R k i k && lG R k k j)
section
variable {n:Nat} {R:Rn}
theorem SY {k i:Nat} (h:R i j=true):lG R k i j=true:=by
 induction k with
 | zero=>exact h
 | succ k ih=>show(lG R k i j || _)=true;rw[ih];rfl
theorem FX {k i:Nat}:lG R (k+1) i j=true↔lG R k i j=true∨(lG R k i k=true/\lG R k k j=true):=by
 show(lG R k i j || (lG R k i k && lG R k k j))=true↔_
 simp_all
theorem Dw:∀{k i j:Nat},k<=n->i<n->j<n->lG R k i j=true->Tc n R i j
 | 0,_,_,_,hi,hj,h=>.one hi hj h
 | k+1,i,j,hk,hi,hj,h=>by
  rcases FX.1 h with h | ⟨h1,d⟩
  ·exact Dw oM hi hj h
  exact .step (Dw oM hi oM h1)<|Dw oM oM hj d
theorem vF:∀{k m i j:Nat},m<k->lG R k i m=true->lG R k m j=true->lG R k i j=true
 | 0,m,_,_,hm,_,_=>absurd hm (nZ_ _)
 | k+1,m,i,j,hm,h1,d=>by
  rw[FX] at h1 d⊢
  by_cases e:m=k
  ·subst e;refine .inr ⟨?_,?_⟩
   ·rcases h1 with h | ⟨h,_⟩<;>exact h
   rcases d with h | ⟨_,h⟩<;>exact h
  have u:m<k:=by omega
  rcases h1 with h1 | ⟨h1,z⟩<;>rcases d with d | ⟨d,w⟩
  ·exact .inl<|vF u h1 d
  ·exact .inr ⟨vF u h1 d,w⟩
  ·exact .inr ⟨h1,vF u z d⟩
  exact .inr ⟨h1,w⟩
theorem QN {i:Nat} (hi:i<n) (hj:j<n):lG R n i j=kW n R i j:=by
 rw[zd_,kP];refine⟨fun h=>Dw (nR_ _) hi hj h,fun h=>?_⟩;clear hi hj;induction h with
 | one hi hj h=>exact SY h
 | step h1 h2 d u=>exact vF h1.lt.2 d u
theorem Oj:bp n (lG R n)=bp n (kW n R):=cy fun i j hi hj=>QN hi hj
def iF (R:Rn) (k i:Nat):Rn:=fun a b=>bif decide (a<i) then lG R (k+1) a b else lG R k a b
theorem KG {k:Nat}:iF R k 0=lG R k:=by
 funext a b;unfold iF
 simp_all
theorem Oi {k:Nat}:bp n (iF R k n)=bp n (lG R (k+1)):=cy fun i j hi _=>by
 unfold iF
 simp_all
theorem Ok {k b:Nat}:lG R (k+1) k b=lG R k k b:=by
 grind [lG]
theorem QM {k i b:Nat}:iF R k i k b=lG R k k b:=by
 grind [iF,Ok]
theorem BX {k i a b:Nat}:iF R k (i+1) a b=bif decide (a=i) then(iF R k i i b || (iF R k i i k && iF R k i k b)) else iF R k i a b:=by
 by_cases e:a=i
 ·subst e;rw[decide_eq_true Z,QM];unfold iF;rw[decide_eq_true<|Nat.lt_succ_self a,decide_eq_false<|Nat.lt_irrefl a];rfl
 grind [iF]
end
variable {ls:List (List cz)} {tm:Nat} {id:cD}
theorem Jv {g:XG} {i:Nat}:cX g ⟨.ofNat 0,.ofNat i⟩=(g.init[i]?).map fun v=>⟨2,i,1,0,v⟩:=rfl
theorem fB {g:XG} {t i:Nat}:cX g ⟨.ofNat (t+1),.ofNat i⟩=(g.threads[t]?).bind (·[i]?):=rfl
theorem yC {g g':XG} {row:List cz} {e w:cz} (hr:g.threads[tm]? =some row) (hi:g'.init=g.init) (ht:g'.threads=g.threads.set tm (row++[e])) (h:cX g id=some w):cX g' id=some w:=by
 obtain⟨th,ix⟩:=id;cases ix with
 | negSucc k=>rw[rZ (by rw[eU];simp)] at h;cases h
 | ofNat i=>
  cases th with
  | negSucc k=>rw[vV (by rw[eU];simp)] at h;cases h
  | ofNat t=>
   cases t with
   | zero=>rw[Jv] at h⊢;rw[hi];exact h
   | succ t=>
    rw[fB] at h⊢
    grind
theorem yB {g g':XG} {row:List cz} {e:cz} (hr:g.threads[tm]? =some row) (u:g'.threads=g.threads.set tm (row++[e])):cX g' ⟨.ofNat (tm+1),.ofNat row.length⟩=some e:=by
 have d:tm<g.threads.length:=(gA.1 hr).1;rw[fB,u,List.getElem?_set,if_pos Z,if_pos d]
 simp_all
def fj (t:Nat):List cz->Nat->LM
 | [],_=>[]
 | e::l,n=>bif bl e then([.ofNat (t+1),.ofNat n],e.loc)::fj t l (n+1) else fj t l (n+1)
def fV:List (List cz)->Nat->LM
 | [],_=>[]
 | l::r,t=>fj t l 0++fV r (t+1)
theorem Bm {k:List Int}:∀{m:LM} {i:Nat},(∀p∈m,p.1≠k)->q7 m k i=none
 | [],_,_=>rfl
 | (k',v)::m,i,h=>by
  show(bif cL k k' then some (i,v) else q7 m k (i+1))=none
  have:cL k k'=false:=by
   cases hh:cL k k' with
   | false=>rfl
   | true=>exact absurd (dF.1 hh).symm (h (k',v)<|mS_ ..)
  rw[this];exact Bm fun p hp=>h p (mC_ _ hp)
theorem zd {t:Nat}:∀{l:List cz} {n:Nat} {m:LM},(∀p∈m,∀k,n<=k->p.1≠[.ofNat (t+1),.ofNat k])->sS t l n m=m++fj t l n
 | [],_,m,_=>by simp[sS,fj]
 | e::l,n,m,h=>by
  show sS t l (n+1) (zc t m n e)=m++(bif bl e then _ else _);unfold zc;cases hw:bl e with
  | false=>exact zd fun p hp k hk=>h p hp k oM
  | true=>
   show sS t l (n+1) (q8 m [.ofNat (t+1),.ofNat n] e.loc)=m++_
   have hp:q8 m [.ofNat (t+1),.ofNat n] e.loc=m++[([.ofNat (t+1),.ofNat n],e.loc)]:=by
    unfold q8;rw[Bm fun p hp=>h p hp n (nR_ _)]
   rw[hp,zd (l:=l) (n:=n+1) fun p hp k hk=>?_,lQ_]
   ·rfl
   grind
theorem mQ {t:Nat}:∀{l:List cz} {n:Nat},∀p∈fj t l n,∃k,p.1= [.ofNat (t+1),.ofNat k]/\n<=k
 | [],_,p,h=>by cases h
 | e::l,n,p,h=>by
  have h':p∈(bif bl e then([.ofNat (t+1),.ofNat n],e.loc)::fj t l (n+1) else fj t l (n+1)):=h;cases hw:bl e with
  | false=>
   rw[hw] at h';obtain⟨k,h1,d⟩:=mQ (l:=l) p h';exact⟨k,h1,by omega⟩
  | true=>
   rw[hw] at h';rcases mQ_.1 h' with rfl | h'
   ·exact⟨n,Z,nR_ _⟩
   obtain⟨k,h1,d⟩:=mQ (l:=l) p h';exact⟨k,h1,by omega⟩
theorem EG:∀{ls:List (List cz)} {t:Nat} {m:LM},(∀p∈m,∀s k,t<=s->p.1≠[.ofNat (s+1),.ofNat k])->qy ls t m=m++fV ls t
 | [],_,m,_=>by simp[qy,fV]
 | l::ls,t,m,h=>by
  show qy ls (t+1) (sS t l 0 m)=m++(fj t l 0++fV ls (t+1));rw[zd fun p hp k _=>h p hp t k (nR_ _),EG (ls:=ls) (t:=t+1) fun p hp s k hs=>?_,lQ_];rcases List.mem_append.1 hp with hp | hp
  ·grind
  obtain⟨k',h1,_⟩:=mQ p hp
  grind
theorem w5:qy ls 0 []=fV ls 0:=by
 rw[EG fun p hp=>by cases hp];rfl
def fu (loc:Nat) (l:List cD):LM:=l.map fun id=>(id.ints,.ofNat loc)
def jA:List (List cD)->Nat->LM
 | [],_=>[]
 | r::ls,loc=>fu loc r++jA ls (loc+1)
theorem lK {α:Type}:∀{m:List α} {j:Nat} {x:α},m[j]? =some x->m.Perm (x::m.eraseIdx j)
 | [],_,_,h=>by simp at h
 | y::m,0,x,h=>by
  have:y=x:=by simpa using h
  subst this;exact List.Perm.refl _
 | y::m,j+1,x,h=>by
  have h':m[j]? =some x:=by simpa using h
  exact(List.Perm.cons y<|lK h').trans (List.Perm.swap x y _)
theorem zi {m:LM} {k:List Int} {v:Int} (h:gy m k=some v):m.Perm ((k,v)::mm m k):=by
 unfold gy at h;unfold mm;cases d:q7 m k 0 with
 | none=>rw[d] at h;cases h
 | some p=>
  obtain⟨j,w⟩:=p;rw[d] at h;have hw:w=v:=by simpa using h
  subst hw;exact lK (sj d).2
theorem AH {loc:Nat}:∀{l:List cD} {m m':LM},mB loc l m=some m'->m.Perm (fu loc l++m')
 | [],m,m',h=>by cases h;exact List.Perm.refl _
 | id::l,m,m',h=>by
  have h':(bif (gy m id.ints).isSome then(bif N ((gy m id.ints).getD 0) (.ofNat loc) then mB loc l (mm m id.ints) else none) else none)=some m':=h;cases d:gy m id.ints with
  | none=>rw[d] at h';cases h'
  | some v=>
   rw[d] at h';have h'':(bif N v (.ofNat loc) then mB loc l (mm m id.ints) else none)=some m':=h';cases he:N v (.ofNat loc) with
   | false=>rw[he] at h'';cases h''
   | true=>
    rw[he] at h'';rw[eB] at he;have hv:v= .ofNat loc:=of_decide_eq_true he;subst hv;exact(zi d).trans (List.Perm.cons _<|AH (l:=l) h'')
theorem AI:∀{ls:List (List cD)} {loc:Nat} {m m':LM},oz ls loc m=some m'->m.Perm (jA ls loc++m')
 | [],_,m,m',h=>by cases h;exact List.Perm.refl _
 | r::ls,loc,m,m',h=>by
  have h':(mB loc r m).bind (oz ls (loc+1))=some m':=h;cases hr:mB loc r m with
  | none=>rw[hr] at h';cases h'
  | some m1=>
   rw[hr] at h';refine(AH hr).trans ?_;show(fu loc r++m1).Perm ((fu loc r++jA ls (loc+1))++m');rw[lQ_];exact List.Perm.append_left _<|AI (ls:=ls) h'
theorem G2 {g:XG} (h:fy g=true):(fV g.threads 0).Perm (jA g.order 0):=by
 unfold fy at h;cases d:oz g.order 0 (qy g.threads 0 []) with
 | none=>rw[d] at h;cases h
 | some m=>
  rw[d] at h
  have h0:m= []:=by
   have h1:N (.ofNat m.length) (.ofNat 0)=true:=h;rw[dY] at h1
   simp_all
  have:=AI d;rw[h0,zk_,w5] at this;exact this
theorem EL {k:List Int} {v:Int}:∀{m:LM} {i:Nat},(m.map (·.1)).Nodup->(k,v)∈m->∃j,q7 m k i=some (j,v)
 | (k',w)::m,i,hn,h=>by
  rw[map_cons,nodup_cons] at hn;show∃j,(bif cL k k' then some (i,w) else q7 m k (i+1))=some (j,v);rcases mQ_.1 h with h1 | h1
  ·cases h1;rw[dF.2 Z];exact⟨i,Z⟩
  have:cL k k'=false:=by
   cases hh:cL k k' with
   | false=>rfl
   | true=>
    have e:=dF.1 hh
    simp_all
  rw[this];exact EL (m:=m) hn.2 h1
theorem HW {loc:Nat}:∀{l:List cD} {m rest:LM},m.Perm (fu loc l++rest)->(m.map (·.1)).Nodup->∃m',mB loc l m=some m'/\m'.Perm rest/\(m'.map (·.1)).Nodup
 | [],m,rest,h,hn=>⟨m,Z,h,hn⟩
 | id::l,m,rest,h,hn=>by
  have d:(id.ints,Int.ofNat loc)∈m:=h.mem_iff.2 (mS_ ..);obtain⟨j,hj⟩:=EL (i:=0) hn d;have z:gy m id.ints=some (.ofNat loc):=by unfold gy;rw[hj];rfl
  have hp:=zi z;have u:(mm m id.ints).Perm (fu loc l++rest):=List.Perm.cons_inv (hp.symm.trans h)
  have w:((mm m id.ints).map (·.1)).Nodup:=by
   have:=(hp.map (·.1)).nodup_iff.1 hn
   rw[map_cons,nodup_cons] at this;exact this.2
  obtain⟨m',h1,A,h3⟩:=HW (l:=l) u w;refine⟨m',?_,A,h3⟩;show(bif (gy m id.ints).isSome then(bif N ((gy m id.ints).getD 0) (.ofNat loc) then mB loc l (mm m id.ints) else none) else none)=some m';have he:N (.ofNat loc) (.ofNat loc)=true:=by rw[dY];simp
  rw[z];show(bif N (.ofNat loc) (.ofNat loc) then mB loc l (mm m id.ints) else none)=some m';rw[he];exact h1
theorem HX:∀{ls:List (List cD)} {loc:Nat} {m:LM},m.Perm (jA ls loc)->(m.map (·.1)).Nodup->oz ls loc m=some []
 | [],_,m,h,_=>by rw[show m= [] from h.eq_nil];rfl
 | r::ls,loc,m,h,hn=>by
  obtain⟨m',h1,d,h3⟩:=HW (l:=r) (rest:=jA ls (loc+1)) h hn;show(mB loc r m).bind (oz ls (loc+1))=some [];rw[h1];exact HX (ls:=ls) d h3
theorem rM {t:Nat}:∀{l:List cz} {n:Nat},((fj t l n).map (·.1)).Nodup
 | [],_=>nodup_nil
 | e::l,n=>by
  show((bif bl e then([.ofNat (t+1),.ofNat n],e.loc)::fj t l (n+1) else fj t l (n+1):LM).map (·.1)).Nodup
  cases bl e with
  | false=>exact rM (l:=l)
  | true=>
   show(([Int.ofNat (t+1),Int.ofNat n],e.loc).1::(fj t l (n+1)).map (·.1)).Nodup
   rw[nodup_cons];refine⟨fun h=>?_,rM (l:=l)⟩;obtain⟨p,hp,he⟩:=zn_.1 h;obtain⟨k,h1,h2⟩:=mQ p hp
   grind
theorem BZ:∀{ls:List (List cz)} {t:Nat},∀p∈fV ls t,∃s k,p.1= [.ofNat (s+1),.ofNat k]/\t<=s
 | [],_,p,h=>by cases h
 | l::ls,t,p,h=>by
  have h':p∈fj t l 0++fV ls (t+1):=h;rcases List.mem_append.1 h' with h' | h'
  ·obtain⟨k,h1,_⟩:=mQ p h';exact⟨t,k,h1,nR_ _⟩
  obtain⟨s,k,h1,h2⟩:=BZ (ls:=ls) p h';exact⟨s,k,h1,by omega⟩
theorem rL:∀{ls:List (List cz)} {t:Nat},((fV ls t).map (·.1)).Nodup
 | [],_=>nodup_nil
 | l::ls,t=>by
  show((fj t l 0++fV ls (t+1)).map (·.1)).Nodup
  rw[map_append,List.nodup_append];refine⟨rM,rL (ls:=ls),fun a d b hb aa=>?_⟩;obtain⟨p,hp,rfl⟩:=zn_.1 d;obtain⟨q,hq,rfl⟩:=zn_.1 hb;obtain⟨k,h1,_⟩:=mQ p hp;obtain⟨s,k',h3,h4⟩:=BZ q hq
  grind
theorem rB {g:XG}:fy g=true↔(fV g.threads 0).Perm (jA g.order 0):=by
 refine⟨G2,fun h=>?_⟩;unfold fy;rw[w5,HX h rL];rfl
variable {pl th:Int} {frow:List cD}
theorem Aa {t:Nat} {e:cz}:∀(l:List cz) (n:Nat),fj t (l++[e]) n=fj t l n++fj t [e] (n+l.length)
 | [],n=>rfl
 | x::l,n=>by
  show(bif bl x then([.ofNat (t+1),.ofNat n],x.loc)::fj t (l++[e]) (n+1) else fj t (l++[e]) (n+1))=(bif bl x then([.ofNat (t+1),.ofNat n],x.loc)::fj t l (n+1) else fj t l (n+1))++fj t [e] (n+(l.length+1));rw[Aa l (n+1),show n+1+l.length=n+(l.length+1) by omega];cases bl x<;>rfl
theorem B0 {row:List cz} {e:cz}:∀{ls:List (List cz)} {t tm:Nat},ls[tm]? =some row->(fV (ls.set tm (row++[e])) t).Perm (fj (t+tm) [e] row.length++fV ls t)
 | [],_,_,h=>by simp at h
 | l::ls,t,0,h=>by
  have:l=row:=by simpa using h
  subst this;show(fj t (l++[e]) 0++fV ls (t+1)).Perm (fj (t+0) [e] l.length++(fj t l 0++fV ls (t+1)));rw[Aa,nA_,add_zero,<-lQ_];exact List.Perm.append_right _ List.perm_append_comm
 | l::ls,t,tm+1,h=>by
  have h':ls[tm]? =some row:=by simpa using h
  show(fj t l 0++fV (ls.set tm (row++[e])) (t+1)).Perm (fj (t+(tm+1)) [e] row.length++(fj t l 0++fV ls (t+1)));refine(List.Perm.append_left _<|B0 h').trans ?_;rw[show t+1+tm=t+(tm+1) by omega,<-lQ_,<-lQ_];exact List.Perm.append_right _ List.perm_append_comm
theorem G1 {loc p:Nat} {r:List cD}:(fu loc (r.take p++id::r.drop p)).Perm ((id.ints,.ofNat loc)::fu loc r):=by
 have h:(r.take p++id::r.drop p).Perm (id::r):=by
  grind [List.perm_middle,List.take_append_drop]
 exact h.map fun x:cD=>(x.ints,Int.ofNat loc)
theorem E0 {p:Nat} {id:cD} {r:List cD}:∀{ls:List (List cD)} {loc ln:Nat},ls[ln]? =some r->(jA (ls.set ln (r.take p++id::r.drop p)) loc).Perm ((id.ints,.ofNat (loc+ln))::jA ls loc)
 | [],_,_,h=>by simp at h
 | l::ls,loc,0,h=>by
  have:l=r:=by simpa using h
  subst this;show(fu loc (l.take p++id::l.drop p)++jA ls (loc+1)).Perm ((id.ints,.ofNat (loc+0))::(fu loc l++jA ls (loc+1)));exact List.Perm.append_right _ G1
 | l::ls,loc,ln+1,h=>by
  have h':ls[ln]? =some r:=by simpa using h
  show(fu loc l++jA (ls.set ln (r.take p++id::r.drop p)) (loc+1)).Perm ((id.ints,.ofNat (loc+(ln+1)))::(fu loc l++jA ls (loc+1)));refine(List.Perm.append_left _<|E0 h').trans ?_;rw[show loc+1+ln=loc+(ln+1) by omega];exact List.perm_middle
theorem vm {g:XG} {t:Nat}:∀{l:List cz} {f:List cD} {n:Nat},f.length=l.length->(rD g t l f n=true↔∀i e q,l[i]? =some e->f[i]? =some q->uW g t (n+i) e q=true)
 | [],f,n,h=>⟨fun _ i e q h1=>by simp at h1,fun _=>Z⟩
 | x::l,[],n,h=>by cases h
 | x::l,y::f,n,h=>by
  have hl:f.length=l.length:=by simpa using h
  show(bif uW g t n x y then rD g t l f (n+1) else false)=true↔_;constructor
  ·intro hh i e q h1 d;cases u:uW g t n x y with
   | false=>rw[u] at hh;cases hh
   | true=>
    rw[u] at hh;cases i with
    | zero=>
     have e1:x=e:=by simpa using h1
     have w:y=q:=by simpa using d
     subst e1 w;exact u
    | succ i=>
     have:=(vm hl).1 hh i e q (by simpa using h1) (by simpa using d);rwa[show n+1+i=n+(i+1) by omega] at this
  intro hh;rw[show uW g t n x y=true from hh 0 x y Z Z];refine(vm hl).2 fun i e q h1 d=>?_
  have:=hh (i+1) e q (by simpa using h1) (by simpa using d);rwa[show n+(i+1)=n+1+i by omega] at this
theorem sE {g:XG}:∀{ls:List (List cz)} {fs:List (List cD)} {t:Nat},fs.length=ls.length->(mr g ls fs t=true↔∀i l f,ls[i]? =some l->fs[i]? =some f->f.length=l.length/\∀j e q,l[j]? =some e->f[j]? =some q->uW g (t+i) j e q=true)
 | [],f,n,h=>⟨fun _ i e q h1=>by simp at h1,fun _=>Z⟩
 | x::l,[],n,h=>by cases h
 | x::l,y::f,t,h=>by
  have hl:f.length=l.length:=by simpa using h
  show(bif N (.ofNat y.length) (.ofNat x.length) then(bif rD g t x y 0 then mr g l f (t+1) else false) else false)=true↔_;constructor
  ·intro hh i e q h1 u;cases he:N (.ofNat y.length) (.ofNat x.length) with
   | false=>rw[he] at hh;cases hh
   | true=>
    rw[he] at hh;cases A:rD g t x y 0 with
    | false=>rw[A] at hh;cases hh
    | true=>
     rw[A] at hh;cases i with
     | zero=>
      have e1:x=e:=by simpa using h1
      have B:y=q:=by simpa using u
      subst e1 B;refine⟨gB he,fun j w z d k2=>?_⟩;have:=(vm<|gB he).1 A j w z d k2;rwa[nA_] at this
     | succ i=>
      have:=(sE hl).1 hh i e q (by simpa using h1) (by simpa using u);rwa[show t+1+i=t+(i+1) by omega] at this
  intro hh;obtain⟨h1,u⟩:=hh 0 x y Z Z;rw[show N (.ofNat y.length) (.ofNat x.length)=true by rw[dY];simp[h1]];rw[show rD g t x y 0=true from(vm h1).2 fun i e q d k2=>by have:=u i e q d k2;rwa[nA_]];refine(sE hl).2 fun i e q d k2=>?_
  have:=hh (i+1) e q (by simpa using d) (by simpa using k2);rwa[show t+(i+1)=t+1+i by omega] at this
structure cG (g:XG):Prop where
 threads:g.threads.length<=4
 init:g.init.length<=6
 short:∀(i:Nat) (l:List cz),g.threads[i]? =some l->l.length<=14
 from_:g.from_.length=g.threads.length
 order:g.order.length=g.init.length
 rows:∀(i:Nat) (l:List cz) (f:List cD),g.threads[i]? =some l->g.from_[i]? =some f->f.length=l.length/\∀(j:Nat) (e:cz) (q:cD),l[j]? =some e->f[j]? =some q->uW g i j e q=true
 perm:(fV g.threads 0).Perm (jA g.order 0)
theorem cP {g:XG}:cY g=0↔cG g:=by
 constructor
 ·intro h;obtain⟨w,z,A,u,B,C,E⟩:=fX h;refine⟨w,z,fun i l hl=>A l (gB_ hl),u,B,fun i l f d k2=>?_,rB.1 E⟩;have:=(sE u).1 C i l f d k2
  simp_all
 intro h;unfold cY
 have h1:fw g=false:=by
  unfold fw;rw[show cM 4 (.ofNat g.threads.length)=false by rw[show(4:Int)= .ofNat 4 from Z,gP];have:=h.threads;simp;omega];rw[show cM 6 (.ofNat g.init.length)=false by rw[show(6:Int)= .ofNat 6 from Z,gP];have:=h.init;simp;omega];show(g.threads.any fun l=>cM 14 (.ofNat l.length))=false;rw[List.any_eq_false];intro l hl;obtain⟨i,hi⟩:=gO_ hl;have:=h.short i l hi;rw[show(14:Int)= .ofNat 14 from Z,gP];simp;omega
 rw[h1];rw[show N (.ofNat g.from_.length) (.ofNat g.threads.length)=true by rw[dY];simp[h.from_]];rw[show N (.ofNat g.order.length) (.ofNat g.init.length)=true by rw[dY];simp[h.order]];rw[show mr g g.threads g.from_ 0=true from(sE h.from_).2 fun i l f d k2=>by have:=h.rows i l f d k2;rwa[nA_]];rw[rB.2 h.perm];rfl
theorem EV {g g':XG} {t n:Nat} {e:cz} {q:cD} (hm:∀id w,cX g id=some w->cX g' id=some w) (hi:g'.init=g.init) (he:cX g ⟨.ofNat (t+1),.ofNat n⟩=some e) (h:uW g t n e q=true):uW g' t n e q=true:=by
 unfold uW at h⊢;rw[hi];cases hr:bD e (.ofNat g.init.length) with
 | false=>rw[hr] at h;cases h
 | true=>
  rw[hr] at h;have h:db g ⟨.ofNat (t+1),.ofNat n⟩ q=true:=h;show db g' ⟨.ofNat (t+1),.ofNat n⟩ q=true;unfold db at h⊢;rw[he] at h;rw[hm _ _ he];cases hq:cX g q with
  | none=>
   simp_all
  | some w=>
   simp_all
def uY (o:List (List cD)) (e:cz) (id:cD) (pl:Int):List (List cD):=
 bif bl e then o.set e.loc.toNat (((o[e.loc.toNat]?).getD []).take (pl.toNat-1)++id::((o[e.loc.toNat]?).getD []).drop (pl.toNat-1)) else o
theorem lq {g:XG} {e:cz} {fr:cD} {row:List cz}:fY g tm e fr pl row frow=⟨g.init,g.threads.set tm (row++[e]),g.from_.set tm (frow++[fr]),uY g.order e ⟨.ofNat (tm+1),.ofNat row.length⟩ pl⟩:=rfl
theorem J1 {o:List (List cD)} {e:cz} {n:Nat} (h:bl e=true->∃(ln:Nat) (r:List cD),e.loc= .ofNat ln/\o[ln]? =some r):(jA (uY o e ⟨.ofNat (tm+1),.ofNat n⟩ pl) 0).Perm (fj tm [e] n++jA o 0):=by
 unfold uY;show List.Perm _ ((bif bl e then([.ofNat (tm+1),.ofNat n],e.loc)::[] else [])++jA o 0);cases he:bl e with
 | false=>simp_all
 | true=>
  obtain⟨ln,r,h1,d⟩:=h he;rw[h1];simp only[cond_true];rw[show(Int.ofNat ln).toNat=ln from Z,d];have:=E0 (p:=pl.toNat-1) (id:=⟨.ofNat (tm+1),.ofNat n⟩) (loc:=0) d;rw[nA_] at this;exact this
theorem Cj {g:XG} {e:cz} (h:jq g e pl=false) (hw:bl e=true):∃(ln:Nat) (r:List cD),e.loc= .ofNat ln/\g.order[ln]? =some r/\(cW g e.loc).length=r.length+1:=by
 unfold jq at h;rw[hw] at h;have h:(bif cM pl 1 then true else cM (.ofNat (cW g e.loc).length) pl)=false:=h;cases h1:cM pl 1 with
 | true=>rw[h1] at h;cases h
 | false=>
  rw[h1] at h;obtain⟨m,rfl⟩:=Hj h1;have d:cM (.ofNat (cW g e.loc).length) (.ofNat (m+1))=false:=h;have:=bJ d;exact qo oM
theorem K7 {g a:XG} {e:cz} {fr:cD} (h:vL g th e fr pl=(some a,0)):cY g=0/\∃tm row frow,th= .ofNat (tm+1)/\g.threads[tm]? =some row/\g.from_[tm]? =some frow/\cM (.ofNat row.length) 14=true/\jq g e pl=false/\a=fY g tm e fr pl row frow/\cY a=0:=by
 cases d:N (cY g) 0 with
 | false=>rw[KZ d] at h;cases h
 | true=>
  refine⟨AT d,?_⟩;cases h1:cM th 1 with
  | true=>rw[K8 d h1] at h;cases h
  | false=>
   cases w:cM (.ofNat g.threads.length) th with
   | true=>rw[KY d h1 w] at h;cases h
   | false=>
    obtain⟨tm,rfl⟩:=Hj h1;have u:tm<g.threads.length:=by have:=bJ w;omega
    obtain⟨row,dP⟩:=da u;obtain⟨frow,ga⟩:=da (show tm<g.from_.length by rw[(fX<|AT d).2.2.2.1];exact u);rw[OI d dP ga] at h;cases h3:cM (.ofNat row.length) 14 with
    | false=>rw[h3] at h;cases h
    | true=>
     rw[h3] at h;rcases Bool.eq_false_or_eq_true (jq g e pl) with h4 | h4
     ·rw[h4] at h;cases h
     rw[h4] at h;cases h5:N (cY<|fY g tm e fr pl row frow) 0 with
     | false=>rw[h5] at h;cases h
     | true=>
      rw[h5] at h;have z:(some<|fY g tm e fr pl row frow,(0:Int))=(some a,0):=h;have A:fY g tm e fr pl row frow=a:=by cases z;rfl
      subst A;exact⟨tm,row,frow,Z,dP,ga,h3,h4,Z,AT h5⟩
theorem E1 {o:List (List cD)} {e:cz}:(uY o e id pl).length=o.length:=by
 grind [uY]
theorem dt (x:Int):N x x=true:=by rw[eB];simp
structure W4 {α:Type} (c:α->α->Int):Prop where
 Wq:∀x y,c y x= -c x y
 small:∀x y,-1<=c x y/\c x y<=1
 trans:∀x y z,c x y<=0->c y z<=0->c x z<=0
variable {α:Type}
theorem oj {l:List α} {ls:List (List α)}:oQ (l::ls)=l.length+oQ ls:=by unfold oQ;simp
theorem z5 {α:Type}:∀{ls:List (List α)} {tm:Nat} {row:List α} {e:α},ls[tm]? =some row->oQ (ls.set tm (row++[e]))=oQ ls+1
 | [],_,_,_,h=>by simp at h
 | l::ls,0,row,e,h=>by
  have:l=row:=by simpa using h
  subst this;show oQ ((l++[e])::ls)=_;rw[oj,oj,lA_,zq_];omega
 | l::ls,tm+1,row,e,h=>by
  have h':ls[tm]? =some row:=by simpa using h
  show oQ (l::ls.set tm (row++[e]))=_;rw[oj,oj,z5 h'];omega
variable {nins:Int} {c:XC}
def tK:List Nat->Nat->Option Nat
 | [],n=>some n
 | c::r,n=>if 48<=c/\c<=57 then tK r (10*n+(c-48)) else none
def qc (s:List Nat):Option Nat:=if s.length=0∨4<s.length∨(1<s.length/\s[0]? =some 48) then none else tK s 0
theorem uF {s:List Nat} {i c n:Nat} (h:s[i]? =some c) (d:¬(48<=c/\c<=57)):tK (s.drop i) n=none:=by
 rw[cN h];show(if _ then _ else _)=_;rw[if_neg d]
theorem yy {s:List Nat} {i c n:Nat} (h:s[i]? =some c) (d:48<=c/\c<=57):tK (s.drop i) n=tK (s.drop (i+1)) (10*n+(c-48)):=by
 rw[cN h];show(if _ then _ else _)=_;rw[if_pos d]
theorem yw {s:List Nat} {i n:Nat} (h:s.length<=i):tK (s.drop i) n=some n:=by rw[ff h];rfl
theorem eqv {a b:Int} (h:N a b=true):a=b:=by rw[eB] at h;simp_all
def rK (b:Bool):Int:=bif b then 1 else 0
def RE (f:BitVec 64->BitVec 64->BitVec 64) (a b:Int):Int:=wr .i64 (IntKind.u64.wrap (f (BitVec.ofInt 64<|wr .u64 a)<|BitVec.ofInt 64<|wr .u64 b).toNat)
def J0 (op a:Int):Int:=bif N op 3 then wr .i64 (wr .u64<|Int.sub 0<|wr .u64 a) else rK (N a 0)
def qk (op a b:Int):Int:=
 bif N op 5 then rK (bif bC (N a 0) then true else bC (N b 0)) else
 bif N op 6 then rK (bif bC (N a 0) then bC (N b 0) else false) else
 bif N op 7 then rK (N a b) else
 bif N op 8 then rK (bC<|N a b) else
 bif N op 9 then rK (cM a b) else
 bif N op 10 then rK (bC<|cM b a) else
 bif N op 11 then RE (· ||| ·) a b else
 bif N op 12 then RE (· ^^^ ·) a b else
 bif N op 13 then RE (· &&& ·) a b else
 bif N op 14 then wr .i64 (wr .u64<|Int.add (wr .u64 a)<|wr .u64 b) else
 bif N op 15 then wr .i64 (wr .u64<|Int.sub (wr .u64 a)<|wr .u64 b) else
 wr .i64 (wr .u64<|Int.mul (wr .u64 a)<|wr .u64 b)
def tL (op:Int) (l:List Int):Int×Int:=
 bif (bif (bif N op 3 then true else N op 4) then N (.ofNat l.length) 1 else false) then(J0 op ((l[0]?).getD 0),0) else
 bif (bif (bif bC (cM op 5) then bC (cM 16 op) else false) then N (.ofNat l.length) 2 else false) then(qk op ((l[0]?).getD 0) ((l[1]?).getD 0),0) else(0,2)
def VU (op:Int) (l:List Int):Int:=(tL op l).1
def oW (bI:List Int):Nat->XE->Int
 | 0,_=>0
 | k+1,.mk op num name kids=>bif N op 1 then num else bif N op 2 then(bI[(qc name).getD 0]?).getD 0 else VU op (kids.map<|oW bI k)
def gx (op:Int):Int:=bif (bif N op 3 then true else N op 4) then 1 else 2
def hX (bI:Int):Nat->XE->Bool
 | 0,_=>false
 | k+1,.mk op num name kids=>
  bif N op 1 then(bif bC (cM num 0) then(bif wS name [] then N (.ofNat kids.length) 0 else false) else false) else
  bif N op 2 then(match qc name with | some n=>(bif cM (.ofNat n) bI then(bif N num 0 then N (.ofNat kids.length) 0 else false) else false) | none=>false) else
  bif (bif (bif N op 3 then true else N op 4) then false else(bif cM op 5 then true else cM 16 op)) then false else
  bif (bif bC (N num 0) then true else bif bC (wS name []) then true else bC (N (.ofNat kids.length)<|gx op)) then false else
  kids.all (hX bI k)
def lE (f:XE->Int->Option Int):List XE->Int->Option Int
 | [],m=>some m
 | x::r,m=>(f x m).bind (lE f r)
def uq:Nat->XE->Int->Int->Option Int
 | 0,_,_,_=>none
 | k+1,.mk _ _ _ kids,deep,size=>bif (bif cM 2000 (wr .i64<|Int.add size 1) then true else cM 32 deep) then none else lE (fun x m=>uq k x (wr .i64<|Int.add deep 1) m) kids (wr .i64<|Int.add size 1)
theorem xj {f:XE->Int->Option Int} {l:List XE} {i:Nat} {m:Int} {x:XE} (hx:l[i]? =some x) (h:(f x m).isSome=false):lE f (l.drop i) m=none:=by
 rw[cN hx];show(f x m).bind _=none
 simp_all
theorem FB {f:XE->Int->Option Int} {l:List XE} {i:Nat} {m s:Int} {x:XE} (hx:l[i]? =some x) (h:f x m=some s):lE f (l.drop i) m=lE f (l.drop (i+1)) s:=by
 rw[cN hx];show(f x m).bind _=_;rw[h];rfl
theorem z0 {f:XE->Int->Option Int} {l:List XE} {i:Nat} {m:Int} (h:l.length<=i):lE f (l.drop i) m=some m:=by rw[ff h];rfl
structure lH where
 zS:Bool
 loc:Bool
 order:Bool
 to:Bool
 exprs:Nat
def oi:List lH:=[⟨false,false,false,false,0⟩,⟨true,false,false,false,1⟩,⟨true,true,true,false,0⟩,⟨false,true,true,false,1⟩,⟨true,true,true,false,2⟩,⟨true,true,true,false,1⟩,⟨true,true,true,false,1⟩,⟨false,false,true,false,0⟩,⟨false,false,false,false,1⟩,⟨false,false,false,false,1⟩,⟨false,false,false,true,0⟩,⟨false,false,false,true,1⟩,⟨false,false,false,false,0⟩,⟨false,false,false,false,0⟩]
def fe (n least most:Int) (must:Bool):Bool:=bif must then(bif bC (cM n least) then cM n most else false) else N n 0
def iC (bI nins:Int) (k:Nat) (x:XI) (h:lH):Bool:=
 bif bC (fe x.zS 0 bI h.zS) then false else bif bC (fe x.loc 0 6 h.loc) then false else bif bC (fe x.order 1 7 h.order) then false else bif bC (fe x.to 0 nins h.to) then false else
 bif bC (N (.ofNat x.exprs.length) (.ofNat h.exprs)) then false else x.exprs.all (hX bI k)
def iO (bI nins:Int) (k:Nat) (x:XI):Bool:=
 bif cM x.kind 1 then false else bif cM 13 x.kind then false else
 match oi[x.kind.toNat]? with
 | some h=>iC bI nins k x h
 | none=>false
def z1 (k:Nat) (x:XI):Bool:=x.exprs.all fun e=>(uq k e 1 0).isSome
def mh (x:XI):Bool:=bif N x.kind 10 then true else bif N x.kind 12 then true else N x.kind 13
def fq (k:Nat) (c:XC):Int:=
 bif cM 16 c.bI then 3 else bif cM 4000 (.ofNat c.ins.length) then 3 else
 bif bC (c.ins.all<|z1 k) then 3 else
 bif cM c.bI 0 then 2 else bif N (.ofNat c.ins.length) 0 then 2 else
 bif bC (c.ins.all<|iO c.bI (.ofNat c.ins.length) k) then 2 else
 match c.ins[c.ins.length-1]? with
 | some x=>bif mh x then 0 else 2
 | none=>2
def iB (x:XI) (at_:Nat):List Int:=
 bif N x.kind 10 then [x.to] else bif N x.kind 11 then [.ofNat (at_+1),x.to] else bif N x.kind 12 then [] else bif N x.kind 13 then [] else [.ofNat (at_+1)]
def eI (c:XC) (i:Nat):List Nat:=match c.ins[i]? with | some x=>(iB x i).map toNat | none=>[]
structure DS where
 st:List Nat
 gone:List Nat
 out:List Nat
 path:List Nat
def m8 (nx:Nat->List Nat) (s:DS) (at_:Nat):Option DS:=
 let g:=(s.gone[at_]?).getD 0
 match(nx at_)[g]? with
 | none=>some {s with st:=s.st.set at_ 2,out:=s.out++[at_],path:=s.path.dropLast}
 | some to=>
  let s':={s with gone:=s.gone.set at_ (g+1)}
  if(s.st[to]?).getD 0=2 then some s' else if(s.st[to]?).getD 0=1 then none else some {s' with st:=s.st.set to 1,path:=s.path++[to]}
def Ea (nx:Nat->List Nat):Nat->DS->Option (List Nat)
 | 0,_=>none
 | f+1,s=>match s.path.getLast? with
  | none=>some s.out
  | some at_=>(m8 nx s at_).bind (Ea nx f)
def Ec (n:Nat):DS:=⟨(replicate n 0).set 0 1,replicate n 0,[],[0]⟩
def total (nx:Nat->List Nat) (n:Nat):Nat:=((range n).map fun i=>(nx i).length).sum
def ik (c:XC):Option (List Nat):=Ea (eI c) (2*total (eI c) c.ins.length+2) (Ec c.ins.length)
def n7 (k:Nat) (c:XC):Bool:=bif bC (N (fq k c) 0) then false else(ik c).isSome
structure S4 (nx:Nat->List Nat) (n:Nat) (s:DS):Prop where
 OE:s.st.length=n
 uN:s.gone.length=n
 gone:∀(i g:Nat),s.gone[i]? =some g->g<=(nx i).length
 path:∀i∈s.path,i<n/\s.st[i]? =some 1
 out:∀i∈s.out,i<n
 nodup:s.path.Nodup
 fresh:∀(i g:Nat),s.st[i]? =some 0->s.gone[i]? =some g->g=0
 done:∀(i:Nat),s.st[i]? =some 2->i∈s.out
 zP:∀(k i:Nat),s.out[k]? =some i->∀to∈nx i,∃k',k'<k/\s.out[k']? =some to
 ways:∀(j p g:Nat),s.path[j]? =some p->s.gone[p]? =some g->∀(m to:Nat),m<g->(nx p)[m]? =some to->to∈s.out∨s.path[j+1]? =some to
 zero:0∈s.out∨0∈s.path
 size:∀(i g:Nat),s.st[i]? =some g->g<=2
def jX (nx:Nat->List Nat) (n:Nat) (s:DS):Nat:=2*(total nx n-s.gone.sum)+s.path.length
section
variable {nx:Nat->List Nat} {n:Nat} {s s':DS}
theorem IV:∀{l:List Nat} {i g g':Nat},l[i]? =some g->(l.set i g').sum+g=l.sum+g'
 | [],_,_,_,h=>by simp at h
 | x::l,0,g,g',h=>by
  simp only[zm_,oJ_] at h;subst h;simp only[List.set_cons_zero,sum_cons];omega
 | x::l,i+1,g,g',h=>by
  have:=IV (l:=l) (i:=i) (g:=g) (g':=g') (by simpa using h);simp only[List.set_cons_succ,sum_cons];omega
theorem IU {f:Nat->Nat}:∀(l:List Nat) (k:Nat),(∀i g,l[i]? =some g->g<=f (k+i))->l.sum<=((List.range' k l.length).map f).sum
 | [],_,_=>by simp
 | x::l,k,h=>by
  have h0:=h 0 x Z;have:=IU l (k+1) (fun i g d=>by have:=h (i+1) g (by simpa using d);rwa[show k+1+i=k+(i+1) by omega]);simp only[zc_,List.range'_succ,map_cons,sum_cons]
  grind
theorem Gq (hn:0<n):S4 nx n (Ec n) where
 OE:=by simp[Ec]
 uN:=by simp[Ec]
 gone i g hg:=by
  have:g=0:=by
   have:=gB_ hg;exact eR_ this
  omega
 path i hi:=by
  obtain rfl:i=0:=by simpa [Ec] using hi
  exact⟨hn,by simp[Ec,hn]⟩
 out i hi:=by simp[Ec] at hi
 nodup:=by simp[Ec]
 fresh i g _ hg:=eR_ (gB_ hg)
 done i hi:=by
  exfalso;have hi:((replicate n 0).set 0 1)[i]? =some 2:=hi
  grind
 zP k i hk:=by simp[Ec] at hk
 ways j p g hj hg m to hm:=by
  have:g=0:=eR_ (gB_ hg);omega
 zero:=.inr (by simp[Ec])
 size i g hg:=by
  have hi:((replicate n 0).set 0 1)[i]? =some g:=hg
  grind
theorem Mw:jX nx n (Ec n)=2*total nx n+1:=by
 have:(Ec n).gone.sum=0:=by
  have:∀m,(replicate m 0).sum=0:=by simp_all
  exact this n
 unfold jX;rw[this];rfl
theorem MH {l:List Nat} {a:Nat} {P:List Nat} (h:l.Nodup) (hl:l=P++[a]) (hj:l[j]? =some a):j=P.length:=by
 grind
theorem qQ (h:S4 nx n s) (am:∀i,i<n->∀to∈nx i,to<n) {a:Nat} (ha:s.path.getLast? =some a) (z:m8 nx s a=some s'):S4 nx n s'/\jX nx n s'+1<=jX nx n s/\s'.out.length+jX nx n s'<=s.out.length+jX nx n s:=by
 obtain⟨P,Q⟩:=List.getLast?_eq_some_iff.1 ha;have R:a∈s.path:=by rw[Q];simp
 obtain⟨S,O⟩:=h.path a R;obtain⟨g,T⟩:∃g,s.gone[a]? =some g:=⟨_,gC (by rw[h.uN];exact S)⟩
 have a1:∀i∈P,i≠a:=fun i hi hh=>by
  have:=h.nodup;grind
 have ao:s.path[P.length]? =some a:=by rw[Q];simp
 have a2:s.path[P.length+1]? =none:=by rw[Q];simp
 unfold m8 at z;rw[T] at z;simp only[Option.getD_some] at z;cases A:(nx a)[g]? with
 | none=>
  rw[A] at z;simp only[oJ_] at z;subst z;have hle:(nx a).length<=g:=List.getElem?_eq_none_iff.1 A;have K:s.path.dropLast=P:=by rw[Q];simp
  refine⟨⟨by simp[h.OE],h.uN,h.gone,?_,?_,?_,?_,?_,?_,?_,?_,?_⟩,?_,?_⟩
  ·intro i hi;have hi:i∈P:=by simp_all
   have:=h.path i (by rw[Q];simp[hi])
   grind
  ·intro i hi;rcases List.mem_append.1 hi with hi | hi
   ·exact h.out i hi
   simp_all
  ·show s.path.dropLast.Nodup;rw[K];have:=h.nodup;grind
  ·intro i g' h1 L
   by_cases e:i=a
   ·grind
   have h1:(s.st.set a 2)[i]? =some 0:=h1;rw[List.getElem?_set_ne (fun x=>e x.symm)] at h1;exact h.fresh i g' h1 L
  ·intro i hi;show i∈s.out++[a]
   by_cases e:i=a
   ·subst e;simp
   have hi:(s.st.set a 2)[i]? =some 2:=hi;rw[List.getElem?_set_ne (fun x=>e x.symm)] at hi;exact List.mem_append_left _<|h.done i hi
  ·intro k i hk to E;have hk:(s.out++[a])[k]? =some i:=hk;show∃k',k'<k/\(s.out++[a])[k']? =some to
   by_cases W:k<s.out.length
   ·rw[gL_ W] at hk;obtain⟨k',h1,L⟩:=h.zP k i hk to E;exact⟨k',h1,by grind⟩
   have hlt':=(gA.1 hk).1;simp only[lA_,zq_] at hlt';obtain rfl:k=s.out.length:=by omega
   have ap:i=a:=by simpa using hk.symm
   subst ap;obtain⟨m,hm⟩:=gO_ E;have hm':=(gA.1 hm).1;rcases h.ways _ _ _ ao T m to oM hm with h1 | h1
   ·grind [gO_]
   simp_all
  ·intro j p g' hj u m to hm w;have hj:s.path.dropLast[j]? =some p:=hj;rw[K] at hj;have hjl:=(gA.1 hj).1;show to∈s.out++[a]∨s.path.dropLast[j+1]? =some to;rcases h.ways j p g' (by grind) u m to hm w with h1 | h1
   ·simp_all
   grind
  ·show 0∈s.out++[a]∨0∈s.path.dropLast;rw[K];rcases h.zero with h1 | h1
   ·simp_all
   grind
  ·intro i g' hi;have hi:(s.st.set a 2)[i]? =some g':=hi;rw[List.getElem?_set] at hi;split at hi
   ·simp_all
   exact h.size i g' hi
  ·grind [jX]
  grind [jX]
 | some to=>
  rw[A] at z;dsimp only at z;have a3:g<(nx a).length:=(gA.1 A).1;have X:to<n:=am a S to (gB_ A);obtain⟨v,hv⟩:∃v,s.st[to]? =some v:=⟨_,gC (by rw[h.OE];exact X)⟩;rw[hv] at z;simp only[Option.getD_some] at z
  have B:∀(i g':Nat),(s.gone.set a (g+1))[i]? =some g'->g'<=(nx i).length:=fun i g' hi=>by
   rw[List.getElem?_set] at hi;split at hi
   ·grind
   exact h.gone i g' hi
  have hsum:=IV (l:=s.gone) (i:=a) (g:=g) (g':=g+1) T
  have W:(s.gone.set a (g+1)).sum<=total nx n:=by
   have:=IU (f:=fun i=>(nx i).length) (s.gone.set a (g+1)) 0 (fun i g' u=>by simp_all);rw[zg_,h.uN] at this;unfold total;rwa[List.range_eq_range']
  have d:∀(p g':Nat),p≠a->(s.gone.set a (g+1))[p]? =some g'->s.gone[p]? =some g':=fun p g' hp u=>by
   grind
  have C:∀(g':Nat),(s.gone.set a (g+1))[a]? =some g'->g'=g+1:=fun g' u=>by
   grind
  split at z
  ·rename_i aa;subst aa;simp only[oJ_] at z;subst z;refine⟨⟨h.OE,by simp[h.uN],B,h.path,h.out,h.nodup,?_,h.done,h.zP,?_,h.zero,h.size⟩,?_,?_⟩
   ·intro i g' h1 L;refine h.fresh i g' h1<|d i g' (fun e=>?_) L
    simp_all
   ·intro j p g' hj u m to' hm w
    by_cases hp:p=a
    ·subst hp;obtain rfl:=C g' u
     by_cases M:m<g
     ·exact h.ways j p g hj T m to' M w
     obtain rfl:m=g:=by omega
     rw[A] at w;cases w;exact .inl<|h.done _ hv
    exact h.ways j p g' hj (d p g' hp u) m to' hm w
   ·unfold jX;dsimp only;omega
   unfold jX;dsimp only;omega
  split at z
  ·cases z
  rename_i aa a4;simp only[oJ_] at z;subst z;have aq:v=0:=by have:=h.size to v hv;omega
  subst aq;have ab:to∉s.path:=fun hh=>by have:=(h.path to hh).2;simp_all
  have ar:to≠a:=fun e=>ab (by rw[e];exact R)
  have G:∀i,i≠to->(s.st.set to 1)[i]? =s.st[i]?:=fun i hi=>List.getElem?_set_ne (fun e=>hi e.symm)
  refine⟨⟨by simp[h.OE],by simp[h.uN],B,?_,h.out,?_,?_,?_,h.zP,?_,?_,?_⟩,?_,?_⟩
  ·intro i hi;rcases List.mem_append.1 hi with hi | hi
   ·obtain⟨h1,L⟩:=h.path i hi
    grind
   grind
  ·show(s.path++[to]).Nodup;refine List.nodup_append.2 ⟨h.nodup,by simp,fun x hx y hy=>?_⟩
   grind
  ·intro i g' h1 L
   by_cases e:i=to
   ·grind
   have h1b:(s.st.set to 1)[i]? =some 0:=h1;rw[G i e] at h1b;refine h.fresh i g' h1b<|d i g' (fun e=>?_) L
   simp_all
  ·intro i hi
   by_cases e:i=to
   ·grind
   have hi:(s.st.set to 1)[i]? =some 2:=hi;rw[G i e] at hi;exact h.done i hi
  ·intro j p g' hj u m to' hm w;have ac:(s.path++[to])[j]? =some p:=hj;clear hj;have hj:=ac;clear ac;show to'∈s.out∨(s.path++[to])[j+1]? =some to'
   by_cases hjl:j<s.path.length
   ·rw[gL_ hjl] at hj
    by_cases hp:p=a
    ·subst hp;obtain rfl:=C g' u;have hjP:=MH h.nodup Q hj
     by_cases M:m<g
     ·rcases h.ways j p g hj T m to' M w with h1 | h1
      ·exact .inl h1
      simp_all
     grind
    rcases h.ways j p g' hj (d p g' hp u) m to' hm w with h1 | h1
    ·exact .inl h1
    grind
   have hlt':=(gA.1 hj).1;simp only[lA_,zq_] at hlt';obtain rfl:j=s.path.length:=by omega
   have a0:to=p:=by simpa using hj
   subst a0;have:=h.fresh to g' hv (d to g' ar u);omega
  ·rcases h.zero with h1 | h1
   ·exact .inl h1
   grind
  ·intro i g' hi;have hi:(s.st.set to 1)[i]? =some g':=hi;rw[List.getElem?_set] at hi;split at hi
   ·grind
   exact h.size i g' hi
  ·grind [jX]
  grind [jX]
structure gT (nx:Nat->List Nat) (n:Nat) (out:List Nat):Prop where
 Fb:∀(k i:Nat),out[k]? =some i->∀to∈nx i,∃k',k'<k/\out[k']? =some to
 zero:0∈out
 lt:∀i∈out,i<n
theorem yt (d:∀i,i<n->∀to∈nx i,to<n):∀{f:Nat} {s:DS} {out:List Nat},S4 nx n s->Ea nx f s=some out->gT nx n out
 | 0,_,_,_,h=>by cases h
 | f+1,s,out,hw,h=>by
  unfold Ea at h;cases hl:s.path.getLast? with
  | none=>
   rw[hl] at h;simp only[oJ_] at h;subst h;have:s.path= []:=List.getLast?_eq_none_iff.1 hl;exact⟨hw.zP,by rcases hw.zero with h1 | h1;exact h1;rw[this] at h1;simp at h1,hw.out⟩
  | some a=>
   rw[hl] at h;dsimp only at h;cases u:m8 nx s a with
   | none=>rw[u] at h;cases h
   | some s'=>rw[u] at h;exact yt d (qQ hw d hl u).1 h
end
structure TS where
 at_:Nat
 bI:List Int
 events:List cz
 asked:Nat
 fin:Int
 asks:Bool
def kE (k:Nat) (bI:List Int) (x:XI) (i:Nat):Int:=((x.exprs[i]?).map<|oW bI k).getD 0
def gR (k:Nat) (x:XI) (s:TS):TS×Bool:=
 bif N x.kind 1 then({s with bI:=s.bI.set x.zS.toNat (kE k s.bI x 0),at_:=s.at_+1},true) else
 bif N x.kind 3 then({s with events:=s.events++[⟨2,x.loc,x.order,0,kE k s.bI x 0⟩],at_:=s.at_+1},true) else
 bif N x.kind 7 then({s with events:=s.events++[⟨4,0,x.order,0,0⟩],at_:=s.at_+1},true) else
 bif N x.kind 8 then(bif N (kE k s.bI x 0) 0 then({s with fin:=2},false) else({s with at_:=s.at_+1},true)) else
 bif N x.kind 9 then(bif N (kE k s.bI x 0) 0 then({s with fin:=3},false) else({s with at_:=s.at_+1},true)) else
 bif N x.kind 10 then({s with at_:=x.to.toNat},true) else
 bif N x.kind 11 then(bif N (kE k s.bI x 0) 0 then({s with at_:=x.to.toNat},true) else({s with at_:=s.at_+1},true)) else
 bif N x.kind 12 then({s with fin:=4},false) else
 bif N x.kind 13 then({s with fin:=1},false) else
 ({s with asks:=true},false)
def cS (k:Nat) (c:XC) (s:TS):TS×Bool:=match c.ins[s.at_]? with | some x=>gR k x s | none=>(s,false)
def v7 (k:Nat) (c:XC):Nat->TS->TS
 | 0,s=>s
 | f+1,s=>bif (cS k c s).2 then v7 k c f (cS k c s).1 else(cS k c s).1
def iK (c:XC):Nat:=((ik c).getD []).length
def kA (k:Nat) (c:XC):TS:=v7 k c (iK c) ⟨0,replicate c.bI.toNat 0,[],0,0,false⟩
structure qD where
 kind:Int
 loc:Int
 order:Int
 a:Int
 b:Int
def qD.ints (x:qD):List Int:=[x.kind,x.loc,x.order,x.a,x.b]
def I9 (k:Nat) (x:XI) (bI:List Int):qD:=⟨x.kind,x.loc,x.order,kE k bI x 0,kE k bI x 1⟩
def mT (k:Nat) (c:XC) (s:TS):qD:=match c.ins[s.at_]? with | some x=>I9 k x s.bI | none=>⟨0,0,0,0,0⟩
def bQ (a:qD) (v:Int):cz:=
 bif N a.kind 2 then⟨1,a.loc,a.order,v,0⟩ else
 bif N a.kind 4 then(bif N v a.a then⟨3,a.loc,a.order,v,a.b⟩ else⟨1,a.loc,a.order,v,0⟩) else
 bif N a.kind 5 then⟨3,a.loc,a.order,v,wr .i64<|wr .u64<|Int.add (wr .u64 v)<|wr .u64 a.a⟩ else
 bif N a.kind 6 then⟨3,a.loc,a.order,v,a.a⟩ else⟨0,0,0,0,0⟩
def gJ (a:qD):Int:=bif N a.kind 2 then 0 else bif N a.kind 4 then 0 else bif N a.kind 5 then 0 else bif N a.kind 6 then 0 else 2
def Ri (c:XC) (s:TS):Nat:=match c.ins[s.at_]? with | some x=>x.zS.toNat | none=>0
def fm (k:Nat) (c:XC) (s:TS) (v:Int):TS:=
 {s with events:=s.events++[bQ (mT k c s) v],bI:=s.bI.set (Ri c s) v,asked:=s.asked+1,at_:=s.at_+1,asks:=false}
def eQ (k:Nat) (c:XC) (s:TS) (v:Int):TS:=v7 k c (iK c) (fm k c s v)
def kU (k:Nat) (c:XC):List Int->TS->TS
 | [],s=>s
 | v::r,s=>bif s.asks then kU k c r (eQ k c s v) else s
def du (l:List cz):List Int:=(l.filter cC).map cz.read
def fP (k:Nat) (c:XC) (a:List Int):TS:=kU k c a (kA k c)
def qW (s:TS) (l:List cz):Bool:=bif cM (.ofNat s.events.length) (.ofNat l.length) then false else cL (s.events.take l.length) l
def jE (k:Nat) (c:XC):Int:=bif n7 k c then 0 else bif bC (N (fq k c) 0) then fq k c else 2
structure ux where
 event:cz
 ask:qD
 fin:Int
def nF:cz:=⟨0,0,0,0,0⟩
def jx:qD:=⟨0,0,0,0,0⟩
def zr:ux:=⟨nF,jx,0⟩
def mn (k:Nat) (c:XC) (s:TS) (l:List cz):ux×Int:=
 bif bC (qW s l) then(zr,2) else
 match s.events[l.length]? with
 | some e=>(⟨e,jx,0⟩,0)
 | none=>bif s.asks then(⟨nF,mT k c s,0⟩,0) else(⟨nF,jx,s.fin⟩,0)
def cm (k:Nat) (c:XC) (l:List cz):ux×Int:=
 bif bC (N (jE k c) 0) then(zr,jE k c) else mn k c (fP k c<|du l) l
structure fK (k:Nat) (c:XC):Prop where
 IG:0<=c.bI
 C8:c.bI<=16
 len:c.ins.length<=4000
 pos:0<c.ins.length
 right:∀x∈c.ins,iO c.bI (.ofNat c.ins.length) k x=true
 last:∀x,c.ins[c.ins.length-1]? =some x->mh x=true
theorem Lq {k:Nat} (h:fq k c=0):fK k c:=by
 unfold fq at h;cases h1:cM 16 c.bI with
 | true=>rw[h1] at h;cases h
 | false=>
 rw[h1] at h;cases d:cM 4000 (.ofNat c.ins.length) with
 | true=>rw[d] at h;cases h
 | false=>
 rw[d] at h;cases h3:bC (c.ins.all<|z1 k) with
 | true=>rw[h3] at h;cases h
 | false=>
 rw[h3] at h;cases h4:cM c.bI 0 with
 | true=>rw[h4] at h;cases h
 | false=>
 rw[h4] at h;cases h5:N (.ofNat c.ins.length) 0 with
 | true=>rw[h5] at h;cases h
 | false=>
 rw[h5] at h;cases h6:bC (c.ins.all<|iO c.bI (.ofNat c.ins.length) k) with
 | true=>rw[h6] at h;cases h
 | false=>
 rw[h6] at h;simp only[cond_false] at h;rw[eU,decide_eq_false_iff_not] at h1 d h4;have d:¬(4000:Int)<(c.ins.length:Int):=d
 have hp:0<c.ins.length:=by
  grind
 refine⟨by omega,by omega,by omega,hp,fun x hx=>?_,fun x hx=>?_⟩
 ·have h6:=bT h6
  simp_all
 grind
theorem ke {bI:Int} {k:Nat} {x:XI} (h:iO bI nins k x=true):∃(n:Nat) (sh:lH),x.kind= .ofNat n/\1<=n/\n<=13/\oi[n]? =some sh/\iC bI nins k x sh=true:=by
 unfold iO at h;cases h1:cM x.kind 1 with
 | true=>rw[h1] at h;cases h
 | false=>
 rw[h1] at h;cases d:cM 13 x.kind with
 | true=>rw[d] at h;cases h
 | false=>
 rw[d] at h;simp only[cond_false] at h;rw[eU,decide_eq_false_iff_not] at h1 d
 grind
theorem oo {n least most:Int} (h:fe n least most true=true):least<=n/\n<most:=by
 unfold fe at h;simp only[cond_true] at h;cases h1:cM n least with
 | true=>rw[h1] at h;cases h
 | false=>
 rw[h1] at h;have h:cM n most=true:=h;rw[eU,decide_eq_false_iff_not] at h1;rw[eU,decide_eq_true_iff] at h;omega
structure OG (bI nins:Int) (k:Nat) (x:XI) (sh:lH):Prop where
 zS:fe x.zS 0 bI sh.zS=true
 loc:fe x.loc 0 6 sh.loc=true
 order:fe x.order 1 7 sh.order=true
 to:fe x.to 0 nins sh.to=true
 exprs:x.exprs.length=sh.exprs
 all:∀e∈x.exprs,hX bI k e=true
theorem lC {bI:Int} {k:Nat} {x:XI} {sh:lH} (h:iC bI nins k x sh=true):OG bI nins k x sh:=by
 unfold iC at h;cases h1:fe x.zS 0 bI sh.zS with
 | false=>rw[h1] at h;cases h
 | true=>
 cases d:fe x.loc 0 6 sh.loc with
 | false=>rw[h1,d] at h;cases h
 | true=>
 cases h3:fe x.order 1 7 sh.order with
 | false=>rw[h1,d,h3] at h;cases h
 | true=>
 cases h4:fe x.to 0 nins sh.to with
 | false=>rw[h1,d,h3,h4] at h;cases h
 | true=>
 rw[h1,d,h3,h4] at h;have h:(bif bC (N (.ofNat x.exprs.length) (.ofNat sh.exprs)) then false else x.exprs.all (hX bI k))=true:=h;cases h5:N (.ofNat x.exprs.length) (.ofNat sh.exprs) with
 | false=>rw[h5] at h;cases h
 | true=>
 rw[h5] at h;have h:x.exprs.all (hX bI k)=true:=h;rw[dY,decide_eq_true_iff] at h5;exact⟨h1,d,h3,h4,h5,aE_.1 h⟩
theorem xN {k:Nat} (h:fK k c):∀i,i<c.ins.length->∀to∈eI c i,to<c.ins.length:=by
 intro i hi to d;unfold eI at d;rw[gC hi] at d;dsimp only at d;have hx:=h.right c.ins[i] (List.getElem_mem hi);have hl:=h.last;generalize aa:c.ins[i]=x at d hx;obtain⟨n,sh,hn,n1,z,w,hr⟩:=ke hx;have hr:=lC hr;have hto':=hr.to
 have u:i+1<c.ins.length∨mh x=true:=by
  grind
 unfold iB at d;unfold mh at u;rw[hn] at d u;have key:∀m:Nat,m=n->(∀y,(sh.to=true->0<=y/\y<(c.ins.length:Int))->y=x.to->True):=fun _ _ _ _ _=>trivial
 have tole:sh.to=true->0<=x.to/\x.to<(c.ins.length:Int):=fun e=>by rw[e] at hto';exact oo hto'
 match n,n1,z with
 | 1,_,_ | 2,_,_ | 3,_,_ | 4,_,_ | 5,_,_ | 6,_,_ | 7,_,_ | 8,_,_ | 9,_,_=>
  have e:to=i+1:=List.mem_singleton.1 (show to∈[i+1] from d);rcases u with e1 | e1
  ·omega
  cases e1
 | 10,_,_=>
  have e:to=x.to.toNat:=List.mem_singleton.1 (show to∈[x.to.toNat] from d);have:=tole (by cases w;rfl);omega
 | 11,_,_=>
  have e:to=i+1∨to=x.to.toNat:=by grind
  have:=tole (by cases w;rfl);rcases e with e | e
  ·rcases u with e1 | e1
   ·omega
   cases e1
  omega
 | 12,_,_ | 13,_,_=>exact absurd (show to∈([]:List Nat) from d) (by simp)
theorem sa {k:Nat} (h:n7 k c=true):fK k c/\∃out,ik c=some out/\gT (eI c) c.ins.length out:=by
 unfold n7 at h;cases h1:N (fq k c) 0 with
 | false=>rw[h1] at h;cases h
 | true=>
  rw[h1] at h;have h:(ik c).isSome=true:=h;have hc:=Lq (AT h1);obtain⟨out,d⟩:=ze_.1 h;exact⟨hc,out,d,yt (xN hc) (Gq hc.pos) d⟩
def Sb:List Int->List Int->Int
 | x::l,y::m=>bif N (RI x y) 0 then Sb l m else RI x y
 | _,_=>0
def B8 (A B:List Int) (c:Int):Prop:=∀l m,Sb (A++l) (B++m)=bif N c 0 then Sb l m else c
theorem B8.nil:B8 [] [] 0:=fun _ _=>Z
theorem B8.one (x y:Int):B8 [x] [y] (RI x y):=fun _ _=>Z
variable {E:Nat}
theorem ints_at {xs:List Int} {i:Nat} {x:Int} (h:xs[i]? =some x):(ints xs)[i]? =some (.int .i64 x):=by
 unfold ints;simp_all
theorem gE {xs:List Int} {vb:Nat} (h:K vb (.row (ints xs) e false)) (hn:xs.length<=1000):bS K 1 g9 xs (.slice vb 0 xs.length (.known xs.length)):=by
 refine .inr ⟨vb,0,_,_,e,false,Z,.inr ⟨_,Z,nR_ _⟩,h,?_,by omega,fun i x hx=>?_⟩
 ·unfold ints;simp_all
 rw[mul_one,nA_,cN<|ints_at hx];rfl
theorem map_take {α β:Type} {f:α->β} {l:List α} {i:Nat} {x:α} (h:l[i]? =some x):(l.take (i+1)).map f=(l.take i).map f++[f x]:=by
 rw[zb_,h,map_append];rfl
theorem lA {xs:List Int} {b:Nat} (hn:xs.length<=1000):cQ 1 E g9 xs (.slice b 0 xs.length (.known xs.length)) [(b,.row (ints xs) e false)]:=by
 refine .inr ⟨b,_,_,e,Z,Z,?_,fun i x hx=>?_,.inl Z,by omega⟩
 ·unfold ints;simp_all
 rw[mul_one,cN<|ints_at hx];rfl
structure Wi (g:XG):Prop where
 t:g.threads.length<=4
 r:∀l∈g.threads,l.length<=14
 f:g.from_.length<=4
 fr:∀l∈g.from_,l.length<=14
 o:g.order.length<=6
 W6:∀l∈g.order,l.length<=56
 i:g.init.length<=6
variable {nx:Nat->List Nat} {R:α->List U->Prop}
abbrev gI (n:Nat):U:=.int .i64 (.ofNat n)
abbrev gS (n:Nat):U:=.int .u8 (.ofNat n)
section
variable {V:aF} {K:KP} {A M L:Own} {x:Nat×cU}
theorem F.front (h:F V K (A++(M++L))):F V K (M++(A++L)):=h.perm (List.perm_append_comm_assoc A M L)
theorem F.GD (h:F V K (x::(A++(M++L)))):F V K (x::(M++(A++L))):=h.perm ((List.perm_append_comm_assoc A M L).cons x)
theorem F.behind (h:F V K (x::(M++L))):F V K (M++x::L):=h.perm List.perm_middle.symm
end
theorem qB.Uo {m:Nat} {l:List α} {u:U} {M:Own} (h:qB m E R l u M) {k:Nat} (hk:k<=l.length):
  ∃u',qB m E R (l.take k) u' M/\∀{P:q6} {ev:q_->Option U} {t:y_} {x hi:q_} {kk:w0},P.underlying t=some (.slice E)->(P.info? E).map (·.size)=some m->ev x=some u->ev hi=some (.int kk (.ofNat k))->ia P ev t x none (some hi) none=some u':=by
 rcases h with ⟨rfl,rfl,rfl⟩ | ⟨b,c,cells,e,rfl,rfl,h3,h4,h5,h6⟩
 ·refine⟨.ax,.inl ⟨List.take_nil,Z,Z⟩,fun {P ev t x hi kk} hu hj hx hh=>?_⟩;obtain⟨j,d,rfl⟩:=oM_.1 hj;obtain rfl:k=0:=by simpa using hk
  have:dw ev 0 0 none (some hi)=some (0,0):=qJ hh (nR_ _);simp only[ia,hu,hx,d,this]
 have hl:(l.take k).length=k:=by simp_all
 have w:∀(i:Nat) (x:α),(l.take k)[i]? =some x->R x ((cells.drop (i*m)).take m):=fun i x hi=>by
  grind
 have hle:k*m<=cells.length:=Nat.le_trans (nM_ _ hk) h3;rcases h5 with ⟨n,rfl,h7,z⟩ | ⟨rfl,rfl⟩
 ·refine⟨.slice b 0 k (.known n),.inr ⟨b,.known n,cells,e,by rw[hl],Z,by rw[hl];exact hle,w,.inl ⟨n,Z,by rw[hl];omega,z⟩,by rw[hl];omega⟩,fun {P ev t x hi kk} hu hj hx hh=>?_⟩;obtain⟨j,d,rfl⟩:=oM_.1 hj;have:dw ev l.length n none (some hi)=some (0,k):=qJ hh oM;simp only[ia,hu,hx,cutAt,this,cut,d]
  simp_all
 refine⟨.slice b 0 k (.upto m),.inr ⟨b,.upto m,cells,e,by rw[hl],Z,by rw[hl];exact hle,w,.inr ⟨Z,Z⟩,by rw[hl];omega⟩,fun {P ev t x hi kk} hu hj hx hh=>?_⟩;obtain⟨j,d,rfl⟩:=oM_.1 hj;have:dw ev l.length l.length none (some hi)=some (0,k):=qJ hh hk;simp only[ia,hu,hx,this,d,show Nat.beq j.size j.size=true from beq_refl _,cond_true,Nat.zero_mul,Nat.sub_zero,add_zero]
theorem Sf {l:List Nat} {i n:Nat} (h:l[i]? =some n):(l.map Int.ofNat)[i]? =some (.ofNat n):=by simp_all
theorem pZ (l:List Nat):(l.map Int.ofNat).length=l.length:=lM_ ..
theorem Pz {l:List Nat} {a:Nat} (h:l.getLast? =some a):l[l.length-1]? =some a:=by grind
theorem Kv (l:List Nat):(l.map Int.ofNat).take (l.length-1)=l.dropLast.map Int.ofNat:=by rw[List.dropLast_eq_take,List.map_take]
theorem ES (x:XI) (a:Nat):(iB x a).length<=2:=by
 grind [iB]
where
 cond_ind2 {a b:List Int} (c:Bool) (h1:a.length<=2) (h0:b.length<=2):(bif c then a else b).length<=2:=by grind
theorem we {a:Nat} {x:XI} (h:c.ins[a]? =some x):(eI c a).length=(iB x a).length:=by unfold eI;rw[h];simp
theorem MB {a g:Nat} {x:XI} {to:Int} (h:c.ins[a]? =some x) (ht:(iB x a)[g]? =some to):(eI c a)[g]? =some to.toNat:=by
 grind [eI]
theorem MC {a g:Nat} {x:XI} (h:c.ins[a]? =some x) (d:(iB x a).length<=g):(eI c a)[g]? =none:=by
 rw[List.getElem?_eq_none_iff,we h];exact d
theorem JV {k:Nat} (w:fK k c) {a g:Nat} {x:XI} {to:Int} (h:c.ins[a]? =some x) (z:(iB x a)[g]? =some to):∃t:Nat,to= .ofNat t/\t<c.ins.length/\(eI c a)[g]? =some t:=by
 have hlt:=(gA.1 h).1;have hN:=MB h z;have hm:=xN w a hlt _ (gB_ hN);refine⟨to.toNat,?_,hm,hN⟩;have hx:=w.right x (gB_ h);obtain⟨n,sh,hn,n1,u,d,hr⟩:=ke hx;have hto:=(lC hr).to;have hmem:=gB_ z;unfold iB at hmem;rw[hn] at hmem;have tole:sh.to=true->0<=x.to/\x.to<(c.ins.length:Int):=fun e=>by rw[e] at hto;exact oo hto
 have nn:∀y:Int,0<=y->y= .ofNat y.toNat:=fun y hy=>by grind
 match n,n1,u with
 | 1,_,_ | 2,_,_ | 3,_,_ | 4,_,_ | 5,_,_ | 6,_,_ | 7,_,_ | 8,_,_ | 9,_,_=>
  have e:to= .ofNat (a+1):=List.mem_singleton.1 (show to∈[Int.ofNat (a+1)] from hmem);rw[e];rfl
 | 10,_,_=>
  have e:to=x.to:=List.mem_singleton.1 (show to∈[x.to] from hmem);have:=tole (by cases d;rfl)
  grind
 | 11,_,_=>
  have e:to= .ofNat (a+1)∨to=x.to:=by grind
  have:=tole (by cases d;rfl)
  grind
 | 12,_,_ | 13,_,_=>exact absurd (show to∈([]:List Int) from hmem) (by simp)
theorem FL:total (eI c) c.ins.length<=2*c.ins.length:=by
 have h:∀(l:List Nat),(l.map fun i=>(eI c i).length).sum<=2*l.length:=by
  intro l;induction l with
  | nil=>simp
  | cons i l ih=>
   grind [eI,ES]
 have:=h (range c.ins.length);rwa[length_range] at this
theorem Pa {f:Nat} {s:DS} (h:s.path.length=0):Ea nx (f+1) s=some s.out:=by
 unfold Ea
 simp_all
theorem yu {f a:Nat} {s s':DS} (h:s.path.getLast? =some a) (hd:m8 nx s a=some s'):Ea nx (f+1) s=Ea nx f s':=by
 conv=>lhs;unfold Ea
 simp_all
theorem Lx {f a:Nat} {s:DS} (h:s.path.getLast? =some a) (hd:m8 nx s a=none):Ea nx (f+1) s=none:=by
 conv=>lhs;unfold Ea
 simp_all
theorem Js {s:DS} {a g:Nat} (hg:s.gone[a]? =some g) (hn:(nx a)[g]? =none):m8 nx s a=some {s with st:=s.st.set a 2,out:=s.out++[a],path:=s.path.dropLast}:=by
 unfold m8;simp_all
theorem Gt {s:DS} {a g to:Nat} (hg:s.gone[a]? =some g) (hn:(nx a)[g]? =some to) (hv:s.st[to]? =some 2):m8 nx s a=some {s with gone:=s.gone.set a (g+1)}:=by
 grind [m8]
theorem Gr {s:DS} {a g to:Nat} (hg:s.gone[a]? =some g) (hn:(nx a)[g]? =some to) (hv:s.st[to]? =some 1):m8 nx s a=none:=by
 grind [m8]
theorem Gs {s:DS} {a g to v:Nat} (hg:s.gone[a]? =some g) (hn:(nx a)[g]? =some to) (hv:s.st[to]? =some v) (h2:v≠2) (h1:v≠1):m8 nx s a=some {s with gone:=s.gone.set a (g+1),st:=s.st.set to 1,path:=s.path++[to]}:=by
 unfold m8;simp_all
theorem Gw {a b:Nat} (h:N (.ofNat a) (.ofNat b)=false):a≠b:=fun e=>by rw[e,dY] at h;simp at h
variable {L:Own} {P:q6}
theorem QU {ev:q_->Option U} {s d:y_} {l:List Nat} (hk:kindOf P (.convert s d x)= .ld) (u:P.underlying s=some .string) (w:P.underlying d=some (.slice e)) (he:P.underlying e=some (.int .u8)) (z:Nat.beq (P.cellsOf e) 1=true) (hx:ev x=some (.str l)):
  dX P G ev V (.convert s d x)= .val (.slice V.next 0 (dK l) (.upto 1)) (V.alloc (.row (l.map gS) e true)):=by
 refine jD hk ?_;have hm:Ap (fun c=>U.int .u8 (Int.ofNat c)) l=l.map gS:=mG _ _;simp only[gh,hx,mW,u,w,he,z,cond_true,hm]
theorem Ly {s:List Nat} {i m c n:Nat} (h:tK (s.drop i) m=some n) (hc:s[i]? =some c):(48<=c/\c<=57)/\tK (s.drop (i+1)) (10*m+(c-48))=some n:=by
 grind [yy,uF]
theorem Nx {s:List Nat} {n:Nat} (h:qc s=some n):0<s.length/\s.length<=4/\tK s 0=some n:=by
 grind [qc]
theorem RQ {c m:Nat} (h:48<=c/\c<=57) (hm:m<=100000):wr .i64 (Int.add (wr .i64<|Int.mul (.ofNat m) 10)<|wr .i64<|wr .u8<|Int.sub (.ofNat c) 48)= .ofNat (10*m+(c-48)):=by
 have e1:Int.sub (.ofNat c) 48= .ofNat (c-48):=by grind
 have u:Int.mul (.ofNat m) 10= .ofNat (10*m):=by grind
 have w:wr .u8 (.ofNat (c-48))= .ofNat (c-48):=by
  show(bif ble (c-48) 255 then _ else _)=_
  grind [nE_]
 have d:∀q:Nat,q<=9223372036854775807->wr .i64 (.ofNat q)= .ofNat q:=fun q hq=>by
  show(bif ble q 9223372036854775807 then _ else _)=_
  grind [nE_]
 rw[e1,u,w,d _ oM,d _ oM];show wr .i64 (.ofNat (10*m+(c-48)))=_;exact d _ oM
theorem RN {c:Nat} (h:48<=c/\c<=57):cM 9 (wr .u8<|Int.sub (.ofNat c) 48)=false:=by
 have e1:Int.sub (.ofNat c) 48= .ofNat (c-48):=by grind
 have w1:wr .u8 (.ofNat (c-48))= .ofNat (c-48):=by
  show(bif ble (c-48) 255 then _ else _)=_
  grind [nE_]
 grind [eU]
def nW {α:Type} (f:α->Int) (l:List α) (i:Nat):List Int:=(l.take i).map f++replicate (l.length-i) 0
theorem yI (f:α->Int) (l:List α):nW f l 0=replicate l.length 0:=by unfold nW;simp
theorem AW {f:α->Int} {l:List α} {i:Nat} (h:l.length<=i):nW f l i=l.map f:=by unfold nW;rw[tL_ h,show l.length-i=0 by omega];simp
theorem r6 {f:α->Int} {l:List α} {i:Nat} (h:i<=l.length):(nW f l i).length=l.length:=by grind [nW]
theorem AX {f:α->Int} {l:List α} {i:Nat} {x:α} (h:l[i]? =some x):(nW f l i).set i (f x)=nW f l (i+1):=by
 have hlt:=(gA.1 h).1;unfold nW;have d:((l.take i).map f).length=i:=by grind
 rw[List.set_append_right _ _ oM,d,Nat.sub_self,show l.length-i=(l.length-(i+1))+1 by omega,List.replicate_succ,List.set_cons_zero,zb_,h,map_append];simp
theorem F.Q4 {x y:Nat×cU} (h:F V K (x::y::L)):F V K (x::L):=(h.perm<|List.Perm.swap ..).pop
variable {M:Own}
theorem kq.mono {K K':KP} (hk:KP.le K K'):∀{k:Nat} {x:XE} {vs:List U},kq K k x vs->kq K' k x vs
 | 0,x,_,h=>by cases x;exact h.elim
 | k+1,.mk _ _ _ _,_,⟨v,h1,d⟩=>⟨v,h1,d.mono hk fun _ _ h=>kq.mono hk h⟩
theorem l9.mono {K K':KP} (hk:KP.le K K') {k:Nat} {x:XI} {vs:List U} (h:l9 K k x vs):l9 K' k x vs:=let ⟨v,h1,d⟩:=h;⟨v,h1,d.mono hk fun _ _ h=>h.mono hk⟩
theorem pK.mono {K K':KP} (hk:KP.le K K') {k:Nat} {x:XC} {vs:List U} (h:pK K k x vs):pK K' k x vs:=let ⟨v,h1,d⟩:=h;⟨v,h1,d.mono hk fun _ _ h=>h.mono hk⟩
theorem pR {K':KP} (hk:KP.le K K') {k:Nat} {l:List XI} {v:U} (h:bS K 6 (l9 K k) l v):bS K' 6 (l9 K' k) l v:=h.mono hk fun _ _ h=>h.mono hk
theorem ll {K':KP} (hk:KP.le K K') {k:Nat} {l:List XE} {v:U} (h:bS K 4 (kq K k) l v):bS K' 4 (kq K' k) l v:=h.mono hk fun _ _ h=>h.mono hk
theorem mL {f:Nat} {args:List U} {u:U} (h0:F V K (M++L)) (h:a8 P G f args V fun v V'=>v=u/\F V' (K.qE M) L):a8 P G f args V fun v V'=>v=u/\F V' K (M++L):=
 h.mono fun _ _ ⟨a,b⟩=>⟨a,h0.IZ b⟩
theorem qH (b o:Nat):eM (.ptr b o) (.ptr b o)=true:=by
 unfold eM;show(eM.beqP b b && Nat.beq o o)=true
 grind [eM.beqP,beq_refl]
abbrev Hy (c:XC) (cv:U) (s:TS) (rb:Nat) (ev:U):List U:=[.int .i64 c.bI,cv,.int .i64 (.ofNat s.at_),.slice rb 0 s.bI.length (.known s.bI.length),ev,.int .i64 (.ofNat s.asked),.int .i64 s.fin,.bool s.asks]
theorem uL {bI:Int} {k n:Nat} {x:XI} (h:iO bI nins k x=true) (hn:x.kind= .ofNat n) (h1:n=1∨n=3∨n=4∨n=5∨n=6∨n=8∨n=9∨n=11):∃e,x.exprs[0]? =some e/\hX bI k e=true:=by
 obtain⟨m,sh,hm,_,_,d,hr⟩:=ke h;have hr:=lC hr;have:m=n:=iJ_ (hm.symm.trans hn);subst this
 have hl:0<x.exprs.length:=by
  rw[hr.exprs];rcases h1 with h1 | h1 | h1 | h1 | h1 | h1 | h1 | h1<;>subst h1<;>cases d<;>decide
 exact⟨x.exprs[0],gC hl,hr.all _<|List.getElem_mem hl⟩
theorem Ny {bI:Int} {k n:Nat} {x:XI} (h:iO bI nins k x=true) (hn:x.kind= .ofNat n) (h1:n=1∨n=2∨n=4∨n=5∨n=6):∃r:Nat,x.zS= .ofNat r/\(r:Int)<bI:=by
 obtain⟨m,sh,hm,_,_,d,hr⟩:=ke h;have hr:=lC hr;have:m=n:=iJ_ (hm.symm.trans hn);subst this
 have u:sh.zS=true:=by
  rcases h1 with h1 | h1 | h1 | h1 | h1<;>subst h1<;>cases d<;>rfl
 have:=hr.zS;rw[u] at this;obtain⟨w1,w2⟩:=oo this;exact⟨x.zS.toNat,by grind,by omega⟩
theorem Ro {bI:Int} {m k n:Nat} {x:XI} (h:iO bI (.ofNat m) k x=true) (hn:x.kind= .ofNat n) (h1:n=10∨n=11):∃r:Nat,x.to= .ofNat r/\r<m:=by
 obtain⟨q,sh,hm,_,_,d,hr⟩:=ke h;have hr:=lC hr;have:q=n:=iJ_ (hm.symm.trans hn);subst this;have w:sh.to=true:=by rcases h1 with h1 | h1<;>subst h1<;>cases d<;>rfl
 have:=hr.to;rw[w] at this;obtain⟨w1,u⟩:=oo this;have u:x.to<(m:Int):=u;exact⟨x.to.toNat,by grind,by omega⟩
theorem fM {k i:Nat} {bI:List Int} {x:XI} {e:XE} (h:x.exprs[i]? =some e):kE k bI x i=oW bI k e:=by unfold kE;rw[h];rfl
theorem uK {k i:Nat} {bI:List Int} {x:XI} (h:x.exprs.length<=i):kE k bI x i=0:=by unfold kE;simp_all
variable {cl:Call} {la:List α} {hi so:q_} {C:U}
section
variable {P:q6} {G:Cx} {V:aF} {K:KP} {L:Own}
theorem KJ {m:Nat} {w:U} {t:y_} (B:F V K L) (hx:bS K m R [] w) (d:∀x vs,R x vs->cF vs=true)
  (C:ts[0]? =some t) (hu:P.underlying t=some (.slice e)) (u:sP P e m=true) (E:dW P ts[1]? =true):gu P V ts .ax w= .val .ax V:=by
 obtain⟨news,M,s2,S,s4⟩:=pC B hx d;unfold sP at u;split at u
 ·rename_i j hj;simp only[bA_] at u;obtain⟨T,W,X,a4⟩:=u;have hm:j.size=m:=nB T;subst hm;have A:((P.info? e).any fun j=>(j.zero.bind ra).any fun z=>(dg z).any fun cs=>Nat.beq (dK cs) j.size)=true:=by rw[hj];exact a4
  unfold gu;rw[C];dsimp only;rw[hu];dsimp only;rw[hj] at A⊢;dsimp only;rw[E,W,X];simp only[Bool.and_self,cond_true];rw[M];dsimp only;rw[S,show ble ([]:List α).length 1048576=true from Z,A]
  simp_all
 cases u
theorem Bt {m:Nat} {l l2:List α} {u E:U} {t:y_} (S:cQ m e R l u M) (O:F V K (M++L))
  (hx:bS K m R l2 E) (d:∀x vs,R x vs->cF vs=true) (hn:l.length+l2.length<=1000000)
  (w:ts[0]? =some t) (hu:P.underlying t=some (.slice e)) (z:sP P e m=true) (A:dW P ts[1]? =true):
  ∃V' u' M',gu P V ts u E= .val u' V'/\cQ m e R (l++l2) u' M'/\F V' K (M'++L):=by
 rcases S with ⟨rfl,rfl,rfl⟩ | ⟨b,c,cells,e',rfl,rfl,h3,h4,h5,h6⟩
 ·cases l2 with
  | nil=>exact⟨V,_,[],KJ O hx d w hu z A,.inl ⟨Z,Z,Z⟩,O⟩
  | cons a l2=>
   obtain⟨news,B,k2,C⟩:=sL (P:=P) O hx d (by simp at hn⊢;omega) (by simp) w hu z A;exact⟨_,_,[(V.next,.row news e false)],B,.inr ⟨_,_,news,e,Z,Z,k2,C,.inr ⟨Z,Z⟩,by simp at hn⊢;omega⟩,O.alloc (.row news e false)⟩
 obtain⟨V',b',c',news,T,B,k2,C,W,X⟩:=Ab (P:=P) O hx d oM h3 oM h5 w hu z A;exact⟨V',_,[(b',.row (cells++news) T false)],B,rj h3 h4 C W Z X oM,k2⟩
theorem Bs {m:Nat} {l l2:List α} {u w:U} {ev:Nat} {t:y_} (z:cQ m e R l u M) (O:F V K ((bv,.row cv ev false)::(M++L)))
  (hx:bS (K.add bv (.row cv ev false)) m R l2 w) (d:∀x vs,R x vs->cF vs=true) (hn:l.length+l2.length<=1000000)
  (A:ts[0]? =some t) (hu:P.underlying t=some (.slice e)) (B:sP P e m=true) (C:dW P ts[1]? =true):
  ∃V' u' M',gu P V ts u w= .val u' V'/\cQ m e R (l++l2) u' M'/\F V' K (M'++L):=by
 obtain⟨V',u',M',h1,h3,h4⟩:=Bt z O.EI hx d hn A hu B C;exact⟨V',u',M',h1,h3,h4.weaken<|KP.tR _ _ _⟩
theorem Pq {m b:Nat} {ro:Bool} {x:α} (hm:vs.length=m) (hR:R x vs) (hk:K b (.row vs e ro)):bS K m R [x] (.slice b 0 1 (.known 1)):=by
 refine .inr ⟨b,0,.known 1,vs,e,ro,Z,.inr ⟨1,Z,nR_ _⟩,hk,by simp[hm],by simp,fun i y d=>?_⟩;cases i with
 | zero=>
  grind
 | succ i=>simp at d
theorem ec {m b:Nat} {x:α} (hm:vs.length=m) (d:R x vs):bS (K.add b (.row vs e false)) m R [x] (.slice b 0 1 (.known 1)):=Pq hm d (.inr ⟨Z,Z⟩)
end
section
variable {P:q6} {G:Cx} {n:Nat} {t:PT U} {V:aF} {K:KP} {L:Own} {Q:Ex->PT U->aF->Prop} {ops:Array z_} {o:z_} {l:List z_} {lp:List (Nat×List Nat)} {ix:Nat} {rc:List Nat}
theorem J3 {m k:Nat} {v:U} {ty:y_} {t':U->PT U} (h:bS K m R la v) (hk:k<=la.length) (d:ops[ix]? =some o) (hw:bK ops t o=some true) (u:o.op= .slice ty xo none (some hi) none)
  (hu:P.underlying ty=some (.slice e)) (hj:(P.info? e).map (·.size)=some m) (hx:bz G t xo=some v) (hh:bz G t hi=some (.int kk (.ofNat k))) (hp:∀v,dG t n o.dst v=some (t' v))
  (z:∀w,bS K m R (la.take k) w->cT P G ops n lp (t' w) V Q):cT P G ops n ((ix,[])::lp) t V Q:=by
 obtain⟨w,h1,A⟩:=zZ (P:=P) h hk hu hj hx hh;refine aj d hw ?_ (hp w)<|z w A;rw[u];exact bx Z h1
theorem MK {m:Nat} {l2:List α} {u:U} {ty:y_} {t':U->PT U} (hr:cQ m e R la u M) (S:F V K (M++L)) (hx:bS K m R l2 C) (d:∀x vs,R x vs->cF vs=true) (hn:la.length+l2.length<=1000000)
  (hw:bK ops t o=some true) (T:o.op= .call cl) (z:cl.callee= .builtin .append) (w:cl.args.toList= [so,xo]) (W:cl.argTypes[0]? =some ty) (A:bz G t so=some u) (B:bz G t xo=some C) (hp:∀v,dG t n o.dst v=some (t' v))
  (h:∀(V':aF) (u':U) (M':Own),cQ m e R (la++l2) u' M'->F V' K (M'++L)->bP P G ops n l (t' u') V' Q) (hu:P.underlying ty=some (.slice e):=by kernel_rfl) (X:sP P e m=true:=by kernel_rfl) (E:dW P cl.argTypes[1]? =true:=by kernel_rfl):bP P G ops n (o::l) t V Q:=by
 obtain⟨V',u',M',k1,k2,k3⟩:=Bt (P:=P) hr S hx d hn W hu X E;refine I hw ?_ (hp _)<|h V' u' M' k2 k3;rw[T];exact fF z w A B E k1
theorem fT {m:Nat} {l2:List α} {u:U} {ev:Nat} {ty:y_} {t':U->PT U} (hr:cQ m e R la u M) (S:F V K ((bv,.row cv ev false)::(M++L))) (hx:bS (K.add bv (.row cv ev false)) m R l2 C) (d:∀x vs,R x vs->cF vs=true) (hn:la.length+l2.length<=1000000)
  (hw:bK ops t o=some true) (T:o.op= .call cl) (z:cl.callee= .builtin .append) (w:cl.args.toList= [so,xo]) (W:cl.argTypes[0]? =some ty) (A:bz G t so=some u) (B:bz G t xo=some C) (hp:∀v,dG t n o.dst v=some (t' v))
  (h:∀(V':aF) (u':U) (M':Own),cQ m e R (la++l2) u' M'->F V' K (M'++L)->bP P G ops n l (t' u') V' Q) (hu:P.underlying ty=some (.slice e):=by kernel_rfl) (X:sP P e m=true:=by kernel_rfl) (E:dW P cl.argTypes[1]? =true:=by kernel_rfl):bP P G ops n (o::l) t V Q:=by
 obtain⟨V',u',M',k1,k2,k3⟩:=Bs (P:=P) hr S hx d hn W hu X E;refine I hw ?_ (hp _)<|h V' u' M' k2 k3;rw[T];exact fF z w A B E k1
theorem CV {m:Nat} {l2:List α} {u E:U} {ev:Nat} {ty:y_} {t':U->PT U} (hr:cQ m e R la u M) (T:F V K ((bv,.row cv ev false)::(M++L))) (hx:bS (K.add bv (.row cv ev false)) m R l2 E) (d:∀x vs,R x vs->cF vs=true) (hn:la.length+l2.length<=1000000)
  (z:ops[ix]? =some o) (hw:bK ops t o=some true) (W:o.op= .call cl) (A:cl.callee= .builtin .append) (w:cl.args.toList= [so,xo]) (X:cl.argTypes[0]? =some ty) (B:bz G t so=some u) (C:bz G t xo=some E) (hp:∀v,dG t n o.dst v=some (t' v))
  (h:∀(V':aF) (u':U) (M':Own),cQ m e R (la++l2) u' M'->F V' K (M'++L)->dA P G ops (t' u') V' rc=true/\cT P G ops n lp (t' u') V' Q) (hu:P.underlying ty=some (.slice e):=by kernel_rfl) (ha:sP P e m=true:=by kernel_rfl) (S:dW P cl.argTypes[1]? =true:=by kernel_rfl):cT P G ops n ((ix,rc)::lp) t V Q:=by
 obtain⟨V',u',M',k1,k2,k3⟩:=Bs (P:=P) hr T hx d hn X hu ha S;refine iI z hw ?_ (hp _)<|h V' u' M' k2 k3;rw[W];exact fF A w B C S k1
end
variable {g:XG}
theorem SN {k:Bool} {ty:y_} {n:Nat} (h:n<64):qx P k .sub ty (.int .u64 (.ofNat (2 ^ n))) (.int .u64 1)=some (.int .u64 (.ofNat (2 ^ n-1))):=by
 have h1:1<=2 ^ n:=Nat.one_le_two_pow;have h2:(2:Nat) ^ n<2 ^ 64:=Nat.pow_lt_pow_right oM h
 have:wr .u64 (Int.sub (.ofNat (2 ^ n)) 1)= .ofNat (2 ^ n-1):=by
  have e:Int.sub (.ofNat (2 ^ n)) 1= .ofNat (2 ^ n-1):=by
   show((2 ^ n:Nat):Int)-1=((2 ^ n-1:Nat):Int);omega
  rw[e];exact Ut oM
 cases k<;>exact congrArg (fun z=>some (U.int .u64 z)) this
theorem Ur {k:Bool} {ty:y_} {n x:Nat} (h:n<64) (hx:x<2 ^ n):qx P k .andNot ty (.int .u64 (.ofNat x)) (.int .u64 (.ofNat (2 ^ n-1)))=some (.int .u64 (.ofNat 0)):=by
 have h2:(2:Nat) ^ n<2 ^ 64:=Nat.pow_lt_pow_right oM h
 have e:(BitVec.ofInt 64 (.ofNat x) &&& ~~~(BitVec.ofInt 64 (.ofNat (2 ^ n-1))))=0#64:=by
  refine BitVec.eq_of_getLsbD_eq fun i hi=>?_
  rw[BitVec.getLsbD_and,BitVec.getLsbD_not,show BitVec.ofInt 64 (.ofNat x)=BitVec.ofNat 64 x from BitVec.ofInt_natCast ..,show BitVec.ofInt 64 (.ofNat (2 ^ n-1))=BitVec.ofNat 64 (2 ^ n-1) from BitVec.ofInt_natCast ..,BitVec.getLsbD_ofNat,BitVec.getLsbD_ofNat,Nat.testBit_two_pow_sub_one]
  by_cases d:i<n
  ·simp[hi,d]
  have:x.testBit i=false:=Nat.testBit_lt_two_pow (zh_ hx<|Nat.pow_le_pow_right oM oM);simp[hi,this]
 have:IntKind.u64.wrap (((BitVec.ofInt 64 (.ofNat x) &&& ~~~(BitVec.ofInt 64 (.ofNat (2 ^ n-1)))).toNat:Nat):Int)= .ofNat 0:=by
  rw[e];rfl
 cases k<;>exact congrArg (fun z=>some (U.int .u64 z)) this
theorem Sn (d:Plain G) {n:Nat} (hn:n<64) (O:F V K L):
  Ca G K L 188 [nI n] V <| .int .u64 (.ofNat (2 ^ n-1)):=by
 refine VV d Tryz.func188 Z (Vp 8 Z (I Z (fJ (j:=n) oM Y Y Y Z) Z (I Z (ay (v:=.int .u64 (.ofNat (2 ^ n))) Z Z<|xn hn) Z (I Z (ay (v:=.int .u64 (.ofNat (2 ^ n-1))) Z Z<|SN hn) Z<|Vt 4 Z ?_))));exact aB Z Z ⟨Z,O⟩
theorem Ip (E:Plain G) {n:Nat} (hn:n<64) {R:Rn} {v:U} (h:bS K 1 RU (bp n R) v) (O:F V K L):
  Ca G K L 265 [.agg [nI n,v]] V <| .int .i64 0:=by
 have hlen:=bM n R;refine VV E Tryz.func265 Z<|Vp 2 Z<|kb O (cd Z Z) (fun V b1 O=>?_);refine Ua O 9 [0,0] Z Z<|ky Z (al Z) (fun M=>?_) (fun M=>?_)
 ·exact Bool.noConfusion (show false=true from M)
 refine Wa O 4 [0,0] Z Z<|ky Z (al Z) (fun u=>?_) (fun u=>?_)
 ·exact absurd (bd (a:=64) (b:=n) u) oM
 refine Wa O 2 [1,0] Z Z<|I Z (WT h Z Z Z (e:=233) Z) Z<|Vx O 6 [0,0] Z Z<|aG Z (fun w=>?_) (fun w=>?_)
 ·exact absurd w (by rw[hlen,dt];decide)
 refine T0 O 7 [1,0] Z Z<|I Z (WT h Z Z Z (e:=233) Z) Z<|UH 4 Z ?_;obtain⟨LL1,O,hLL1⟩:=O.named;refine bk ([2,4]++rg 24 11) (fun j t V=>∃(i:Nat),j+i=(bp n R).length/\t.get 24=some (nI i)/\F V K LL1) ((bp n R).length) ⟨0,Z,Z,O⟩ ?_;clear O;intro Q t V ar S;obtain⟨i,ac,z,O⟩:=S;subst hLL1;obtain⟨oo,rfl⟩:=ar.q1 z Z;refine Vo 6 Z<|aG Z (fun d=>?_) (fun d=>?_)
 ·refine Ta 6 Z ?_;have C:i<n:=by have:=bd d;omega
  refine WJ (e:=233) (m:=1) h (dn C) Z Z Z Z (fun am aa A ab B=>?_);obtain rfl:=B;refine I Z (WV O A Z Z) Z<|UQ O 8 [0,0] Z Z<|kx (WQ Z Z Z) (Sn E hn O) (fun V O=>?_);refine I Z (ay (v:=.int .u64 (.ofNat 0)) Z Z<|Ur hn<|DO _ _) Z<|I Z (ay (v:=.bool false) Z Z (Z)) Z<|UK 5 Z<|V0 4 Z ?_;have hlp:=bd d;refine aJ ⟨Q-1,by omega,oF,i+1,by omega,cI<|aX oM,O⟩
 refine UG 3 Z<|aR<|V5 6 Z ?_;exact aB Z Z ⟨Z,O.pop⟩
theorem G4 (A:Plain G) {n:Nat} (hn:n<64) (O:F V K L):
  EC G 266 [nI n] V fun u V'=>∃b,u= .agg [nI n,.slice b 0 n (.known n)]/\F V' K ((b,.row ((bp n fun _ _=>false).map gU) 233 false)::L):=by
 refine VV A Tryz.func266 Z<|Vp 2 Z<|kb O (WU (cs:=[J,.ax])) (fun V b1 O=>?_);refine TY 7 Z<|ky Z (al Z) (fun h5=>?_) (fun h5=>?_)
 ·exact Bool.noConfusion (show false=true from h5)
 refine Vr 5 Z<|aG Z (fun d=>?_) (fun d=>?_)
 ·exact absurd (bd (a:=64) (b:=n) d) oM
 refine UF 6 Z<|fg O Z (jd (e:=233) (w:=8) (z:=[gU 0]) Y Y Y Y Z Z oM oM) (fun _=>Z) (fun V B O=>?_);rw[gp (f:=gU)] at O;refine I Z (WO (places:=[(0,1),(1,1)]) (zero:=[J,.ax]) (cs:=[_,_]) Z) Z<|eZ O Z (WX Z Z Z O.g1 Z) Z (fun V O=>?_);refine Vt 3 Z ?_;rw[uj] at O;exact cA Z Z O.g1 (m:=2) Y Z ⟨B,Z,O.sub (.cons_cons _ (.cons _ (.refl _)))⟩
theorem PQ (T:Plain G) {n:Nat} (hn:n<64) {l:List Rn} {v:U} (d:bS K 2 (I6 K n) l v) (hp:0<l.length) (O:F V K L):
  Ca G K L 269 [v] V <| .bool true:=by
 obtain⟨x0,h0x⟩:=da hp;refine VV T Tryz.func269 Z<|UD 9 Z<|I Z (WT d Z Z Z (e:=173) Z) Z<|UH 4 Z ?_;obtain⟨LL1,O,hLL1⟩:=O.named;refine bk ([2,4]++rg 7 17) (fun j t V=>∃(i:Nat),j+i=l.length/\t.get 7=some (nI i)/\F V K LL1) (l.length) ⟨0,Z,Z,O⟩ ?_;clear O;intro W t V ar X;obtain⟨i,am,E,O⟩:=X;subst hLL1;obtain⟨oo,rfl⟩:=ar.q1 E Z;refine Vo 6 Z<|aG Z (fun M=>?_) (fun M=>?_)
 ·refine Ta 6 Z ?_;obtain⟨x9,Q,ao⟩:=dH M;refine WJ (e:=173) (m:=2) d Q Z Z Z Z (fun p9 ap R aq S=>?_);have hr9':=S;obtain⟨v9,rfl,u⟩:=hr9';refine I Z (WW O R Z Z) Z<|kb O (WU (cs:=[J,.ax])) (fun V b1 O=>?_);refine ks O (S1 Z Z Z O.g0 (m:=2) Z (ah Z<|ah u.leaf.2 az) (cells':=[_,_]) Z) (fun V O=>?_);refine UI 3 Z<|aP (l:=zp [0,1,2,3,4,5,6,7,8,9,10,11]) Y Y<|aj Z Z (W0 Z O.g0 Z) Z<|di Z Z (WQ Z Z Z) (fun _=>Z) (Ip T hn u O) (fun V O=>?_);refine⟨aU,?_⟩;refine wQ 1 Z<|fA Z Z (al Z) (fun _=>Z) (fun w=>?_) (fun w=>?_)
  ·exact absurd w (by decide)
  refine Wb O 3 [0,0] Z Z<|WK (e:=173) (m:=2) d h0x Z Z Z Z Z (fun a0 aa z ab A=>?_);have hr18':=A;obtain⟨a1,rfl,ac⟩:=hr18';refine dU z Z Z Z Z (k:=0) Y (lb Z) (fun _=>Z) (fun a2 B=>?_);refine aj Z Z (WV O B Z Z) Z<|Vu 4 Z<|aG Z (fun C=>?_) (fun C=>?_)
  ·exact absurd C (by rw[dt];decide)
  refine aH<|aD<|V0 4 Z ?_;have O:=O.pop;have hlp:=bd M;refine aJ ⟨W-1,by omega,oF,i+1,by omega,cI<|aX (by have:=d.cE;omega),O⟩
 refine UG 3 Z<|aR<|Vp 3 Z<|I Z (WT d Z Z Z (e:=173) Z) Z<|Vt 5 Z ?_;exact aB Z Z ⟨cB (show ble 1 l.length=true by rw[nE_];exact hp),O⟩
theorem PM (hG:Plain G) {n:Nat} (hn:n<64) {l:List Rn} {v:U} (E:bS K 2 (I6 K n) l v) (hp:0<l.length) (O:F V K L):
  EC G 189 [v] V fun u V'=>∃b,u= .agg [nI n,.slice b 0 n (.known n)]/\F V' K ((b,.row ((bp n<|iY l).map gU) 233 false)::L):=by
 obtain⟨x0,h0x⟩:=da hp;refine VV hG Tryz.func189 Z<|Vp 2 Z<|kb O (WU (cs:=[J,.ax])) (fun V b1 O=>?_);refine TY 6 Z<|kx (WQ Z Z Z) (PQ hG hn E hp O) (fun V O=>?_);refine I Z (df Z) Z<|TZ 8 Z<|WJ (e:=173) (m:=2) E h0x Z Z Z Z (fun be a0 M a1 Q=>?_);have hr13':=Q;obtain⟨bi,rfl,a2⟩:=hr13';refine bX M Z Z Z (k:=0) Y (lb Z) (fun _=>Z) (fun bj S=>?_);refine I Z (WV O S Z Z) Z<|kw (WQ Z Z Z) (G4 hG hn O) ?_;rintro _ V ⟨T,rfl,O⟩;refine kb O (WU (cs:=[J,.ax])) (fun V b3 O=>?_);refine ks O (WX Z Z Z O.g0 Z) (fun V O=>?_);refine TY 6 Z<|I Z (WT E Z Z Z (e:=173) Z) Z ?_;rw[<-Ik (l:=l)] at O;refine UH 4 Z (bk ([5,6,7]++rg 19 22) (fun j t V=>∃(k:Nat),j+k=l.length/\t.get 19=some (nI k)/\F V K ((b3,.row [nI n,.slice T 0 n (.known n)] 173 false)::(T,.row ((bp n<|iY<|l.take k).map gU) 233 false)::(b1,.row [J,.ax] 173 false)::L)) (l.length) ⟨0,Z,Z,O⟩ ?_);clear O;intro j5 t V ar hI;obtain⟨k,bm,W,O⟩:=hI;obtain⟨oo,rfl⟩:=ar.q1 W Z;refine Vo 6 Z<|aG Z (fun A=>?_) (fun A=>?_)
 ·refine Ta 6 Z ?_;obtain⟨d,C,a3⟩:=dH A;refine WJ (e:=173) (m:=2) E C Z Z Z Z (fun bq a4 X a5 aa=>?_);have hr21':=aa;obtain⟨ao,rfl,w⟩:=hr21';refine I Z (WW O X Z Z) Z<|kb O (WU (cs:=[J,.ax])) (fun V b4 O=>?_);refine ks O (S1 Z Z Z O.g0 (m:=2) Z (ah Z<|ah w.leaf.2 az) (cells':=[_,_]) Z) (fun V O=>?_);refine UQ O 6 [1,0] Z Z<|I Z (WT w Z Z Z (e:=233) Z) Z ?_;have hR:=C;rw[<-EZ (R:=d)] at O;refine UH 4 Z (bk ([6,7]++rg 26 14) (fun j t V=>∃(i:Nat),j+i=(bp n d).length/\t.get 26=some (nI i)/\F V K ((b4,.row [nI n,ao] 173 false)::(b3,.row [nI n,.slice T 0 n (.known n)] 173 false)::(T,.row ((bp n<|Dz (iY<|l.take k) d i).map gU) 233 false)::(b1,.row [J,.ax] 173 false)::L)) ((bp n d).length) ⟨0,Z,Z,O⟩ ?_);clear O;intro j8 t V ar hI;obtain⟨i,br,ab,O⟩:=hI;obtain⟨oo,rfl⟩:=ar.q1 ab Z;refine Vo 6 Z<|aG Z (fun B=>?_) (fun B=>?_)
  ·refine Ta 7 Z ?_;have z:i<n:=by have:=bd B;rw[bM] at this;exact this
   refine WJ (e:=233) (m:=1) w (dn z) Z Z Z Z (fun bs a9 ac bb am=>?_);obtain rfl:=am;refine I Z (WV O ac Z Z) Z (Vs 5 Z (Wa O 3 [1,1] Z Z (I Z (eF (e:=233) (m:=1) Y Y Z Z z) Z (I Z (av Z (O.get 2 Z) Y<|gw (dn z) (by first | omega | rfl)) Z (vQ 1 Z (I Z (ay (v:=.int .u64 (.ofNat<|bA n ((Dz (iY<|l.take k) d i) i) ||| bA n (d i))) Z Z<|xA (cZ oM _)<|cZ oM _) Z<|I Z (eF (e:=233) (m:=1) Y Y Z Z z) Z ?_))))));refine gm O (.there (.there .here)) Z (aI Z Z Z (O.get 2 Z) (m:=1) Y Z (by rw[lM_];rw[bM];omega) Z (cells':=((bp n ((Dz (iY<|l.take k) d i))).set i<|bA n ((Dz (iY<|l.take k) d i) i) ||| bA n (d i)).map (gU)) (dL (f:=gU) (v:=(bA n ((Dz (iY<|l.take k) d i) i) ||| bA n (d i))) (by rw[bM];exact z) (by first | omega | rfl))) Z (fun V O=>?_);rw[Il] at O;refine af<|aD<|V0 4 Z ?_;have hlp:=bd B;refine aJ ⟨j8-1,by omega,oF,i+1,by omega,cI<|aX oM,O⟩
  refine UG 3 Z<|aR<|aD<|V0 4 Z ?_;have O:=O.pop;have hlp:=bd A;have ap:i=n:=by have:=bJ B;rw[bM] at*;omega
  subst ap;rw[EY hR] at O;refine aJ ⟨j5-1,by omega,oF,k+1,by omega,cI<|aX (by have:=E.cE;omega),O⟩
 refine UG 3 Z<|aR<|Vp 2 Z<|I Z (W0 Z O.g0 Z) Z<|hJ O Z (WX Z Z Z (O.get 2 Z) Z) Z (fun V O=>?_);refine Vt 3 Z ?_;have aq:l.take k=l:=tL_ (bJ A);rw[aq] at O;exact cA Z Z (O.get 2 Z) (m:=2) Y Z ⟨T,Z,O.sub (.cons _ (.cons_cons _ (.cons _ (.refl _))))⟩
variable {ln:Nat}
theorem p5 {α β:Type} (f:α->β) {l:List α} (h:(l.map f).Nodup):l.Nodup:=List.Pairwise.of_map f (fun _ _ hh e=>hh (congrArg f e)) h
theorem xQ {α:Type}:∀{l m:List α},l.Nodup->(∀x∈l,x∈m)->m.length<=l.length->l.Perm m
 | [],m,_,_,h=>by simp_all
 | x::l,m,hn,d,h=>by
  rw[nodup_cons] at hn;obtain⟨i,hi⟩:=gO_ (d x<|mS_ ..);have hp:=lK hi;have hlen:=hp.length_eq;rw[zc_] at hlen h;refine(List.Perm.cons x<|xQ (l:=l) (m:=m.eraseIdx i) hn.2 (fun y hy=>?_) oM).trans hp.symm
  grind
theorem EU {α:Type}:∀{l m:List α},l.Nodup->(∀x∈l,x∈m)->l.length<=m.length
 | [],_,_,_=>zero_le _
 | x::l,m,hn,d=>by
  rw[nodup_cons] at hn;obtain⟨i,hi⟩:=gO_ (d x<|mS_ ..);have hp:=lK hi;have hlen:=hp.length_eq;rw[zc_] at hlen⊢
  have:=EU (l:=l) (m:=m.eraseIdx i) hn.2 fun y hy=>by
   grind
  omega
def gV (loc:Int):List cz->Nat
 | []=>0
 | e::l=>(bif (bif bl e then N e.loc loc else false) then 1 else 0)+gV loc l
def jh (loc:Int):List (List cz)->Nat
 | []=>0
 | l::r=>gV loc l+jh loc r
def sY (loc:Int) (p:List Int×Int):Bool:=N p.2 loc
theorem rX {loc:Int} {t:Nat}:∀{l:List cz} {n:Nat},((fj t l n).filter<|sY loc).length=gV loc l
 | [],_=>rfl
 | e::l,n=>by
  show(List.filter (sY loc) (bif bl e then([.ofNat (t+1),.ofNat n],e.loc)::fj t l (n+1) else fj t l (n+1))).length=(bif (bif bl e then N e.loc loc else false) then 1 else 0)+gV loc l;cases hw:bl e with
  | false=>
   simp only[cond_false,nA_];exact rX
  | true=>
   simp only[cond_true];rw[filter_cons];show(if N e.loc loc=true then _ else _:LM).length=_;cases he:N e.loc loc with
   | true=>simp only[if_true,cond_true,zc_];rw[rX];omega
   | false=>simp only[cond_false,nA_];rw[if_neg (by decide)];exact rX
theorem vR {loc:Int}:∀{ls:List (List cz)} {t:Nat},((fV ls t).filter<|sY loc).length=jh loc ls
 | [],_=>rfl
 | l::ls,t=>by
  show(List.filter (sY loc) (fj t l 0++fV ls (t+1))).length=gV loc l+jh loc ls;rw[filter_append,lA_,rX,vR]
theorem B1 {t:Nat} {k:List Int} {v:Int}:∀{l:List cz} {n:Nat},(k,v)∈fj t l n↔∃i e,l[i]? =some e/\bl e=true/\k= [.ofNat (t+1),.ofNat (n+i)]/\v=e.loc
 | [],n=>⟨fun h=>(by cases h),fun⟨i,e,h,_⟩=>by simp at h⟩
 | e::l,n=>by
  show(k,v)∈(bif bl e then([.ofNat (t+1),.ofNat n],e.loc)::fj t l (n+1) else fj t l (n+1))↔_;have ih:=B1 (t:=t) (k:=k) (v:=v) (l:=l) (n:=n+1)
  have up:(k,v)∈fj t l (n+1)↔∃i e',l[i]? =some e'/\bl e'=true/\k= [.ofNat (t+1),.ofNat (n+(i+1))]/\v=e'.loc:=by
   grind
  have cons:(∃i e',(e::l)[i]? =some e'/\bl e'=true/\k= [.ofNat (t+1),.ofNat (n+i)]/\v=e'.loc)↔(bl e=true/\k= [.ofNat (t+1),.ofNat n]/\v=e.loc)∨∃i e',l[i]? =some e'/\bl e'=true/\k= [.ofNat (t+1),.ofNat (n+(i+1))]/\v=e'.loc:=by
   constructor
   ·grind
   rintro (⟨d,h3,h4⟩ | ⟨i,e',h1,d,h3,h4⟩)
   ·exact⟨0,e,Z,d,h3,h4⟩
   exact⟨i+1,e',by simpa using h1,d,h3,h4⟩
  grind
theorem jc {k:List Int} {v:Int}:∀{ls:List (List cz)} {t:Nat},(k,v)∈fV ls t↔∃s i l e,ls[s]? =some l/\l[i]? =some e/\bl e=true/\k= [.ofNat (t+s+1),.ofNat i]/\v=e.loc
 | [],t=>⟨fun h=>(by cases h),fun⟨s,i,l,e,h,_⟩=>by simp at h⟩
 | l::ls,t=>by
  show(k,v)∈fj t l 0++fV ls (t+1)↔_;rw[List.mem_append,B1,jc (ls:=ls)];constructor
  ·rintro (⟨i,e,h1,d,h3,h4⟩ | ⟨s,i,l',e,h0,h1,d,h3,h4⟩)
   ·exact⟨0,i,l,e,Z,h1,d,by rw[h3,nA_],h4⟩
   exact⟨s+1,i,l',e,by simpa using h0,h1,d,by grind,h4⟩
  grind
theorem iN {k:List Int} {v:Int}:∀{ls:List (List cD)} {loc:Nat},(k,v)∈jA ls loc↔∃ln r id,ls[ln]? =some r/\id∈r/\k=id.ints/\v= .ofNat (loc+ln)
 | [],loc=>⟨fun h=>(by cases h),fun⟨ln,r,id,h,_⟩=>by simp at h⟩
 | r::ls,loc=>by
  show(k,v)∈fu loc r++jA ls (loc+1)↔_;rw[List.mem_append,iN (ls:=ls)];constructor
  ·rintro (h | ⟨ln,r',id,h1,d,h3,h4⟩)
   ·obtain⟨id,h1,d⟩:=zn_.1 h
    grind
   exact⟨ln+1,r',id,by simpa using h1,d,h3,by grind⟩
  rintro ⟨ln,r',id,h1,d,h3,h4⟩;cases ln with
  | zero=>
   have:r=r':=by simpa using h1
   subst this;exact .inl<|zn_.2 ⟨id,d,by simp_all⟩
  | succ ln=>grind
theorem tY {loc:Nat} (r:List cD):(fu loc r).filter (sY (.ofNat loc))=fu loc r:=List.filter_eq_self.2 fun p hp=>by
 obtain⟨id,_,rfl⟩:=zn_.1 hp;show N (.ofNat loc) (.ofNat loc)=true;rw[dY];simp
theorem sT {loc x:Nat} (r:List cD) (h:loc≠x):(fu loc r).filter (sY (.ofNat x))= []:=List.filter_eq_nil_iff.2 fun p hp=>by
 obtain⟨id,_,rfl⟩:=zn_.1 hp;show¬N (.ofNat loc) (.ofNat x)=true;rw[dY];simp[h]
theorem rh {x:Nat}:∀{ls:List (List cD)} {loc ln:Nat} {r:List cD},ls[ln]? =some r->loc+ln=x->(jA ls loc).filter (sY (.ofNat x))=fu x r
 | [],_,_,_,h,_=>by simp at h
 | q::ls,loc,0,r,h,hx=>by
  have:q=r:=by simpa using h
  subst this;have hx:loc=x:=by omega
  subst hx;show(fu loc q++jA ls (loc+1)).filter _=_;rw[filter_append,tY]
  have:(jA ls (loc+1)).filter (sY (.ofNat loc))= []:=List.filter_eq_nil_iff.2 fun p hp=>by
   obtain⟨k,v⟩:=p;obtain⟨ln,r,id,_,_,_,rfl⟩:=iN.1 hp;show¬N (.ofNat (loc+1+ln)) (.ofNat loc)=true;rw[dY];simp;omega
  rw[this,zk_]
 | q::ls,loc,ln+1,r,h,hx=>by
  show(fu loc q++jA ls (loc+1)).filter _=_;rw[filter_append,sT q oM,rh (ls:=ls) (loc:=loc+1) (ln:=ln) (by simpa using h) oM];rfl
def Am (g:XG) (loc:Int) (id:cD):Bool:=
 bif (cX g id).isSome then(bif N id.br 0 then false else bif bl (iE<|cX g id) then N (iE<|cX g id).loc loc else false) else false
structure HP (g:XG) (ln:Nat) (r:List cD):Prop where
 S8:∀id∈r,Am g (.ofNat ln) id=true
 nodup:r.Nodup
 Gh:r.length=jh (.ofNat ln) g.threads
theorem l5 {x y:cD} (h:x.ints=y.ints):x=y:=by
 have:cL x.ints y.ints=true:=dF.2 h;rw[cD.same] at this;exact dF.1 this
theorem Cu {g:XG}:Am g (.ofNat ln) id=true↔(id.ints,Int.ofNat ln)∈fV g.threads 0:=by
 rw[jc];unfold Am;constructor
 ·intro h;cases d:cX g id with
  | none=>rw[d] at h;cases h
  | some e=>
   rw[d] at h;obtain⟨th,ix⟩:=id;have h:(bif N th 0 then false else bif bl e then N e.loc (.ofNat ln) else false)=true:=h;cases h0:N th 0 with
   | true=>rw[h0] at h;cases h
   | false=>
    rw[h0] at h;cases hw:bl e with
    | false=>rw[hw] at h;cases h
    | true=>
     rw[hw] at h
     have hl:e.loc= .ofNat ln:=by
      have h:N e.loc (.ofNat ln)=true:=h;rw[eB] at h;simp_all
     obtain⟨t,i,rfl,rfl,_,_,hp⟩:=LF (by rw[d];rfl);cases t with
     | zero=>cases h0
     | succ t=>
      rw[fB] at d;cases hr:g.threads[t]? with
      | none=>simp_all
      | some l=>
       rw[hr] at d;exact⟨t,i,l,e,hr,d,hw,by rw[nA_];rfl,hl.symm⟩
 rintro ⟨s,i,l,e,h1,u,h3,h4,h5⟩;obtain⟨th,ix⟩:=id;rw[nA_] at h4;have h4: [th,ix]= [.ofNat (s+1),.ofNat i]:=h4;simp only[List.cons.injEq,and_true] at h4;obtain⟨rfl,rfl⟩:=h4;have he:cX g ⟨.ofNat (s+1),.ofNat i⟩=some e:=by rw[fB,h1];exact u
 rw[he];show(bif N (.ofNat (s+1)) 0 then false else bif bl e then N e.loc (.ofNat ln) else false)=true;rw[show N (.ofNat (s+1)) 0=false by rw[show(0:Int)= .ofNat 0 from Z,dY];simp,h3,<-h5]
 grind [dY]
theorem qm {t:Nat}:(fV ls t).Nodup:=p5 _ rL
theorem uX {loc:Nat} {r:List cD} (h:r.Nodup):(fu loc r).Nodup:=by
 grind [fu,l5]
theorem xe {g:XG} (u:∀(t:Nat) (l:List cz) (i:Nat) (e:cz),g.threads[t]? =some l->l[i]? =some e->bl e=true->∃ln:Nat,e.loc= .ofNat ln/\ln<g.order.length):
  (∀(ln:Nat) (r:List cD),g.order[ln]? =some r->HP g ln r)↔(fV g.threads 0).Perm (jA g.order 0):=by
 constructor
 ·intro h;refine xQ qm (fun p hp=>?_) ?_
  ·obtain⟨k,v⟩:=p;obtain⟨s,i,l,e,h1,z,h3,h4,h5⟩:=jc.1 hp;obtain⟨ln,A,B⟩:=u s l i e h1 z h3;obtain⟨r,hr⟩:=da B;have ho:=h ln r hr
   have hq:(fu ln r).Perm ((fV g.threads 0).filter<|sY (.ofNat ln)):=by
    refine xQ (uX ho.nodup) (fun q hq=>?_) ?_
    ·obtain⟨id,d,rfl⟩:=zn_.1 hq;refine List.mem_filter.2 ⟨Cu.1<|ho.S8 id d,?_⟩;show N (.ofNat ln) (.ofNat ln)=true;rw[dY];simp
    rw[vR,<-ho.Gh];unfold fu;simp_all
   have hm:(k,v)∈fu ln r:=hq.mem_iff.2 (List.mem_filter.2 ⟨hp,by show N v (.ofNat ln)=true;rw[h5,A,dY];simp⟩);obtain⟨id,d,he⟩:=zn_.1 hm;cases he;exact iN.2 ⟨ln,r,id,hr,d,Z,by rw[nA_]⟩
  
  have key:∀(m:Nat) (ls:List (List cD)),(∀(ln:Nat) (r:List cD),ls[ln]? =some r->HP g (m+ln) r)->((jA ls m).Nodup/\∀p∈jA ls m,p∈fV g.threads 0):=by
   intro m ls;induction ls generalizing m with
   | nil=>intro _;exact⟨nodup_nil,fun p hp=>by cases hp⟩
   | cons r ls ih=>
    intro hh
    obtain⟨C,E⟩:=ih (m+1) fun ln r' w=>by
     have:=hh (ln+1) r' (by simpa using w)
     grind
    have h0:=hh 0 r Z;rw[add_zero] at h0;refine⟨?_,fun p hp=>?_⟩
    ·show(fu m r++jA ls (m+1)).Nodup;rw[List.nodup_append];refine⟨uX h0.nodup,C,fun a G b hb aa=>?_⟩;obtain⟨id,_,rfl⟩:=zn_.1 G
     grind [iN]
    rcases List.mem_append.1 (show p∈fu m r++jA ls (m+1) from hp) with hp | hp
    ·obtain⟨id,d,rfl⟩:=zn_.1 hp;exact Cu.1<|h0.S8 id d
    exact E p hp
  obtain⟨K,k2⟩:=key 0 g.order fun ln r hr=>by simp_all
  exact EU K k2
 intro hp ln r hr;have dP:∀id∈r,(id.ints,Int.ofNat ln)∈fV g.threads 0:=fun id d=>hp.mem_iff.2 (iN.2 ⟨ln,r,id,hr,d,Z,by rw[nA_]⟩)
 have hf:=rh (x:=ln) (loc:=0) hr (nA_ _);refine⟨fun id d=>Cu.2 (dP id d),?_,?_⟩
 ·grind [qm,fu,p5]
 have:=(hp.filter<|sY (.ofNat ln)).length_eq
 grind [vR,fu]
theorem mM {g:XG} (h1:fw g=false) (d:¬cG g):cY g=2:=by
 have h3:cY g≠0:=fun h=>d (cP.1 h)
 unfold cY at h3⊢
 grind
theorem FI {g:XG} (h:cM 4 (.ofNat g.threads.length)=true):fw g=true:=by unfold fw;rw[h];rfl
theorem FK {g:XG} (h:cM 6 (.ofNat g.init.length)=true):fw g=true:=by
 grind [fw]
theorem FJ {g:XG} {i:Nat} {x:List cz} (hx:g.threads[i]? =some x) (h:cM 14 (.ofNat x.length)=true):fw g=true:=by
 grind [fw]
theorem Hz {g:XG} {i:Nat} (h1:cM 4 (.ofNat g.threads.length)=false) (h2:cM 6 (.ofNat g.init.length)=false) (hi:g.threads.length<=i) (h3:∀(k:Nat) (l:List cz),k<i->g.threads[k]? =some l->cM 14 (.ofNat l.length)=false):fw g=false:=by
 grind [fw,gO_]
theorem qL {g:XG} (h:fw g=true):cY g=3:=by unfold cY;rw[h];rfl
theorem tM {a b:Int} (h:N a b=true):a=b:=by rw[eB] at h;simp_all
theorem Fl {e:cz} {n:Nat} (h:bD e (.ofNat n)=true) (hw:bl e=true):∃ln:Nat,e.loc= .ofNat ln/\ln<n:=by
 unfold bD at h
 have hk:N e.kind 4=false:=by
  grind [bl,tM]
 rw[hk] at h
 have key:(bif bC (cM e.loc 0) then cM e.loc (.ofNat n) else false)=true:=by
  simp_all
 cases h0:cM e.loc 0 with
 | true=>rw[h0] at key;cases key
 | false=>
  rw[h0] at key;obtain⟨ln,hl⟩:=ij h0;rw[hl] at key;exact⟨ln,hl,bd key⟩
theorem MO {g:XG} {t n:Nat} {e:cz} {q:cD} (h:uW g t n e q=true):bD e (.ofNat g.init.length)=true/\db g ⟨.ofNat (t+1),.ofNat n⟩ q=true:=by
 unfold uW at h
 simp_all
theorem MP {g:XG} {t n:Nat} {e:cz} {q:cD} (h1:bD e (.ofNat g.init.length)=true) (d:db g ⟨.ofNat (t+1),.ofNat n⟩ q=true):uW g t n e q=true:=by
 unfold uW;rw[h1];exact d
theorem qM {loc:Int}:∀{l:List cz} {i:Nat} {x:cz},l[i]? =some x->gV loc (l.take (i+1))=gV loc (l.take i)+(bif (bif bl x then N x.loc loc else false) then 1 else 0)
 | [],_,_,h=>by simp at h
 | e::l,0,x,h=>by
  have:e=x:=by simpa using h
  subst this;show(bif (bif bl e then N e.loc loc else false) then 1 else 0)+gV loc []=0+_;rw[nA_];rfl
 | e::l,i+1,x,h=>by
  have h':l[i]? =some x:=by simpa using h
  show(bif (bif bl e then N e.loc loc else false) then 1 else 0)+gV loc (l.take (i+1))=(bif (bif bl e then N e.loc loc else false) then 1 else 0)+gV loc (l.take i)+_;rw[qM h',Nat.add_assoc]
theorem O4 {loc:Int} {l:List cz} {i:Nat} {x:cz} (h:l[i]? =some x) (h1:bl x=true) (d:N x.loc loc=true):gV loc (l.take (i+1))=gV loc (l.take i)+1:=by
 rw[qM h,h1,d];rfl
theorem Lo {loc:Int} {l:List cz} {i:Nat} {x:cz} (h:l[i]? =some x) (h1:bl x=false∨N x.loc loc=false):gV loc (l.take (i+1))=gV loc (l.take i):=by
 grind [qM]
theorem wM {loc:Int}:∀{ls:List (List cz)} {i:Nat} {x:List cz},ls[i]? =some x->jh loc (ls.take (i+1))=jh loc (ls.take i)+gV loc x
 | [],_,_,h=>by simp at h
 | l::ls,0,x,h=>by
  have:l=x:=by simpa using h
  subst this;show gV loc l+jh loc []=0+_;rw[nA_];rfl
 | l::ls,i+1,x,h=>by
  have h':ls[i]? =some x:=by simpa using h
  show gV loc l+jh loc (ls.take (i+1))=gV loc l+jh loc (ls.take i)+_;rw[wM h',Nat.add_assoc]
theorem vS {loc:Int}:∀{l:List cz},gV loc l<=l.length
 | []=>nR_ _
 | e::l=>by
  have:=vS (loc:=loc) (l:=l);show(bif (bif bl e then N e.loc loc else false) then 1 else 0)+gV loc l<=l.length+1;cases (bif bl e then N e.loc loc else false) with
  | true=>show 1+_<=_;omega
  | false=>show 0+_<=_;omega
theorem AK {loc:Int} {b:Nat}:∀{ls:List (List cz)},(∀l∈ls,l.length<=b)->jh loc ls<=ls.length*b
 | [],_=>zero_le _
 | l::ls,h=>by
  have h1:=h l (mS_ ..);have h2:=AK (loc:=loc) (ls:=ls) fun x hx=>h x (mC_ _ hx)
  grind [vS,jh,succ_mul]
theorem Cq {loc:Int} {i:Nat} (h1:ls.length<=4) (d:∀l∈ls,l.length<=14):jh loc (ls.take i)<=56:=by
 have h3:=AK (loc:=loc) (b:=14) (ls:=ls.take i) fun l hl=>d l (List.mem_of_mem_take hl)
 grind
theorem zt {l:List α} (h:l.Nodup) {i:Nat} {a b:α} (aa:i<j) (ha:l[i]? =some a) (hb:l[j]? =some b):a≠b:=fun e=>by
 grind [List.pairwise_iff_getElem]
theorem MI {l:List α} (h:∀(i j:Nat) (a b:α),i<j->l[i]? =some a->l[j]? =some b->a≠b):l.Nodup:=
 List.pairwise_iff_getElem.2 fun i j h1 u d=>h i j _ _ d (gC h1) (gC u)
def kr:List (List cz)->Nat->List cD
 | [],_=>[]
 | r::l,t=>(range r.length).map (fun i=>(⟨.ofNat (t+1),.ofNat i⟩:cD))++kr l (t+1)
def gj (g:XG):List cD:=(range g.init.length).map (fun i=>(⟨0,.ofNat i⟩:cD))++kr g.threads 0
def eJ (g:XG) (i:Nat):cD:=((gj g)[i]?).getD ⟨0,0⟩
def dB (g:XG) (i:Nat):cz:=iE (cX g<|eJ g i)
def An (g:XG):List cz:=(gj g).map fun id=>iE (cX g id)
def H (g:XG):Nat:=(gj g).length
theorem Bh:∀{l:List (List cz)} {t s:Nat} {row:List cz},l[t]? =some row->kr (l.take (t+1)) s=kr (l.take t) s++(range row.length).map fun i=>(⟨.ofNat (s+t+1),.ofNat i⟩:cD)
 | [],_,_,_,h=>by simp at h
 | r::l,0,s,row,h=>by
  simp only[zm_,oJ_] at h;subst h;simp[kr]
 | r::l,t+1,s,row,h=>by
  have:=Bh (l:=l) (t:=t) (s:=s+1) (by simpa using h);rw[List.take_succ_cons,List.take_succ_cons];show _++kr (l.take (t+1)) (s+1)=(_++kr (l.take t) (s+1))++_;rw[this,lQ_,show s+1+t+1=s+(t+1)+1 by omega]
def iW (g:XG) (i t k:Nat):List cD:=(range i).map (fun i=>(⟨0,.ofNat i⟩:cD))++(kr (g.threads.take t) 0++(range k).map fun i=>(⟨.ofNat (t+1),.ofNat i⟩:cD))
theorem CF {g:XG} {i:Nat}:iW g i 0 0++[⟨0,.ofNat i⟩]=iW g (i+1) 0 0:=by unfold iW;simp[kr,range_succ]
theorem y8 {g:XG} {i t k:Nat}:iW g i t k++[⟨.ofNat (t+1),.ofNat k⟩]=iW g i t (k+1):=by unfold iW;simp[range_succ,lQ_]
theorem GJ {g:XG} {i t:Nat} {row:List cz} (h:g.threads[t]? =some row):iW g i t row.length=iW g i (t+1) 0:=by
 unfold iW;rw[Bh h,nA_];simp
theorem y5 {g:XG} {t:Nat} (h:g.threads.length<=t):iW g g.init.length t 0=gj g:=by
 unfold iW gj;rw[tL_ h];simp
section
variable {g:XG}
theorem LP:(An g).length=H g:=lM_ ..
theorem eE {i:Nat} (h:i<H g):(gj g)[i]? =some (eJ g i):=by unfold eJ;rw[gC h];rfl
theorem eY {i:Nat} (h:i<H g):(An g)[i]? =some (dB g i):=by unfold An dB;rw[gM_,eE h];rfl
theorem xI:∀{l:List (List cz)} {t n:Nat} {id:cD},(kr l t)[n]? =some id->∃(s k:Nat) (row:List cz) (e:cz),l[s]? =some row/\row[k]? =some e/\id=⟨.ofNat (t+s+1),.ofNat k⟩
 | [],_,_,_,h=>by simp[kr] at h
 | r::l,t,n,id,h=>by
  unfold kr at h
  by_cases hn:n<r.length
  ·rw[gL_ (by simpa using hn),gM_,zr_ hn] at h;simp only[Option.map_some,oJ_] at h;exact⟨0,n,r,r[n],Z,gC hn,h.symm⟩
  rw[gR_ (by simp_all)] at h;obtain⟨s,k,row,e,h1,d,h3⟩:=xI h;exact⟨s+1,k,row,e,by simpa using h1,d,by grind⟩
theorem EA:∀{l:List (List cz)} {t s k:Nat} {row:List cz} {e:cz},l[s]? =some row->row[k]? =some e->(⟨.ofNat (t+s+1),.ofNat k⟩:cD)∈kr l t
 | [],_,_,_,_,_,h,_=>by simp at h
 | r::l,t,0,k,row,e,h,d=>by
  simp only[zm_,oJ_] at h;subst h;unfold kr
  grind
 | r::l,t,s+1,k,row,e,h,d=>by
  unfold kr;have:=EA (t:=t+1) (by simpa using h) d
  grind
theorem fp {i:Nat} (h:i<H g):(∃(x:Nat) (v:Int),eJ g i=⟨0,.ofNat x⟩/\g.init[x]? =some v/\dB g i=⟨2,.ofNat x,1,0,v⟩)∨(∃(t k:Nat) (row:List cz) (e:cz),eJ g i=⟨.ofNat (t+1),.ofNat k⟩/\g.threads[t]? =some row/\row[k]? =some e/\dB g i=e):=by
 have ha:=eE h;unfold gj at ha
 by_cases hn:i<g.init.length
 ·rw[gL_ (by simpa using hn),gM_,zr_ hn] at ha;simp only[Option.map_some,oJ_] at ha;refine .inl ⟨i,g.init[i],ha.symm,gC hn,?_⟩;unfold dB;rw[<-ha];show iE ((g.init[i]?).map fun v=>(⟨2,i,1,0,v⟩:cz))=_;rw[gC hn];rfl
 rw[gR_ (by simp_all)] at ha;obtain⟨s,k,row,e,h1,h2,h3⟩:=xI ha;rw[nA_] at h3
 grind [dB,fB,iE]
theorem xJ {e:cz} (h:cX g id=some e) (hw:0<=id.index):id∈gj g:=by
 obtain⟨th,ix⟩:=id;obtain⟨k,rfl⟩:∃k:Nat,ix= .ofNat k:=⟨ix.toNat,(Int.toNat_of_nonneg hw).symm⟩;unfold gj
 match th with
 | .ofNat 0=>
  have h:(g.init[k]?).map (fun v=>(⟨2,k,1,0,v⟩:cz))=some e:=h
  grind
 | .ofNat (t+1)=>
  rw[show(⟨.ofNat (t+1),.ofNat k⟩:cD)=⟨.ofNat (t+1),.ofNat k⟩ from Z,fB] at h;obtain⟨row,h1,d⟩:=Option.bind_eq_some_iff.1 h;have:=EA (t:=0) h1 d
  simp_all
 | .negSucc t=>simp[cX] at h
theorem za:∀{l:List (List cz)} {t:Nat},(∀r∈l,r.length<=14)->(kr l t).length<=14*l.length
 | [],_,_=>nR_ _
 | r::l,t,h=>by
  unfold kr;have h1:=za (l:=l) (t:=t+1) fun r hr=>h r (mC_ _ hr)
  have h2:=h r (mS_ ..);rw[lA_,lM_,length_range,zc_];omega
theorem uP (h:cG g) {i t k:Nat} (hi:i<=6) (hk:k<=14) (ht:t<=4):(iW g i t k).length<=100:=by
 unfold iW
 have h1:=za (l:=g.threads.take t) (t:=0) fun r hr=>by
  obtain⟨i,hi⟩:=gO_ (List.mem_of_mem_take hr);exact h.short i r hi
 grind
theorem kI (h:cG g):H g<=62:=by
 unfold H gj;rw[lA_,lM_,length_range]
 have h1:=za (l:=g.threads) (t:=0) fun r hr=>by
  obtain⟨i,hi⟩:=gO_ hr;exact h.short i r hi
 have:=h.threads;have:=h.init;omega
theorem Ic:∀{l:List (List cz)} {t:Nat},(kr l t).Pairwise (·≠·)
 | [],_=>.nil
 | r::l,t=>by
  unfold kr;refine List.pairwise_append.2 ⟨?_,Ic,fun a d b hb=>?_⟩
  ·refine List.pairwise_map.2 ((List.pairwise_lt_range (n:=r.length)).imp fun {a b} aa he=>?_)
   grind
  obtain⟨k,_,rfl⟩:=zn_.1 d;obtain⟨q,hq⟩:=gO_ hb;obtain⟨s,k',_,_,_,_,rfl⟩:=xI hq
  grind
theorem Mc:(gj g).Pairwise (·≠·):=by
 unfold gj;refine List.pairwise_append.2 ⟨?_,Ic,fun a d b hb=>?_⟩
 ·refine List.pairwise_map.2 ((List.pairwise_lt_range (n:=g.init.length)).imp fun {a b} aa he=>?_)
  grind
 obtain⟨k,_,rfl⟩:=zn_.1 d;obtain⟨q,hq⟩:=gO_ hb;obtain⟨s,k',_,_,_,_,rfl⟩:=xI hq
 grind
theorem sd {i:Nat} (hi:(gj g)[i]? =some id) (hj:(gj g)[j]? =some id):i=j:=by
 grind [List.pairwise_iff_getElem,Mc]
end
theorem se {α:Type} {p:α->Bool}:∀{l:List α} {i n:Nat} {x:α},l[n]? =some x->p x=true->(∀k y,k<n->l[k]? =some y->p y=false)->ey p l i= .ofNat (i+n)
 | [],_,_,_,h,_,_=>by simp at h
 | y::l,i,0,x,h,hp,_=>by
  simp only[zm_,oJ_] at h;subst h;unfold ey;rw[hp];rfl
 | y::l,i,n+1,x,h,hp,hb=>by
  unfold ey;rw[hb 0 y oM Z];have:=se (i:=i+1) (l:=l) (n:=n) (by simpa using h) hp fun k z hk d=>hb (k+1) z oM (by simpa using d)
  show ey p l (i+1)=_;rw[this,show i+1+n=i+(n+1) by omega]
def KO (g:XG) (id:cD):cD:=((((g.from_[id.br.toNat-1]?).getD [])[id.index.toNat]?).getD ⟨0,0⟩)
def eH (g:XG) (i:Nat):Int:=bif cC (dB g i) then ey (fun x:cD=>cL x.ints (KO g<|eJ g i).ints) (gj g) 0 else-1
def jI (g:XG) (loc:Int):List cD:=(g.order[loc.toNat]?).getD []
def dR (g:XG) (i:Nat):Int:=bif N (eJ g i).br 0 then 0 else(let p:=ey (fun x:cD=>cL x.ints (eJ g i).ints) (jI g (dB g i).loc) 0;bif cM p 0 then-1 else wr .i64 (Int.add p 1))
def jk (g:XG):Rn:=fun i j=>bif (bif N (eJ g i).br 0 then cM 0 (eJ g j).br else false) then true else bif cM 0 (eJ g i).br then(bif N (eJ g i).br (eJ g j).br then cM (eJ g i).index (eJ g j).index else false) else false
def qz (g:XG):Rn:=fun i j=>N (eH g j) (.ofNat i)
def nE (g:XG):Rn:=fun i j=>bif bl (dB g i) then(bif bl (dB g j) then(bif N (dB g i).loc (dB g j).loc then cM (dR g i) (dR g j) else false) else false) else false
def pW (g:XG):Rn:=fun i j=>bif bC (N (.ofNat i) (.ofNat j)) then(bif cC (dB g i) then nE g (eH g i).toNat j else false) else false
def tT (g:XG):Rn:=fun i j=>bif bC (N (.ofNat i) (.ofNat j)) then(bif bC (N (dB g i).kind 4) then(bif bC (N (dB g j).kind 4) then N (dB g i).loc (dB g j).loc else false) else false) else false
def sN (g:XG) (i:Nat):Bool:=bif N (dB g i).order 3 then true else bif N (dB g i).order 5 then true else N (dB g i).order 6
def ru (g:XG) (i:Nat):Bool:=bif N (dB g i).order 4 then true else bif N (dB g i).order 5 then true else N (dB g i).order 6
theorem uI {g:XG} {e:cz} (h:cX g id=some e):0<=id.index:=by
 grind [cX]
theorem yP {g:XG} (Q:cG g) {i:Nat} (hi:i<H g) (hr:cC (dB g i)=true):∃(t k:Nat) (row:List cz) (e:cz) (frow:List cD) (q:cD),eJ g i=⟨.ofNat (t+1),.ofNat k⟩/\g.threads[t]? =some row/\row[k]? =some e/\dB g i=e/\g.from_[t]? =some frow/\frow[k]? =some q/\KO g (eJ g i)=q/\∃f,f<H g/\eJ g f=q/\bl (dB g f)=true/\(dB g f).loc=(dB g i).loc/\q≠eJ g i:=by
 rcases fp hi with ⟨x,v,h1,K,h3⟩ | ⟨t,k,row,e,h1,K,h3,h4⟩
 ·rw[h3] at hr;exact Bool.noConfusion (show false=true from hr)
 obtain⟨frow,A⟩:∃frow,g.from_[t]? =some frow:=⟨_,gC (by rw[Q.from_];grind)⟩;obtain⟨hl,L⟩:=Q.rows t row frow K A;obtain⟨q,hq⟩:∃q,frow[k]? =some q:=⟨_,gC (by grind)⟩;have hoke:=L k e q h3 hq;unfold uW at hoke
 have d:db g ⟨.ofNat (t+1),.ofNat k⟩ q=true:=by
  simp_all
 have M:cX g ⟨.ofNat (t+1),.ofNat k⟩=some e:=by rw[fB,K];exact h3
 rw[h4] at hr;unfold db at d;rw[M] at d;simp only[show iE (some e)=e from Z,hr,Bool.not_true,cond_false] at d;cases R:(cX g q).isSome with
 | false=>simp_all
 | true=>
  obtain⟨w,hw⟩:=ze_.1 R;rw[hw] at d;simp only[Option.isSome_some,cond_true,show iE (some w)=w from Z] at d;cases z:cL [q.br,q.index] [Int.ofNat (t+1),Int.ofNat k] with
  | true=>simp_all
  | false=>
  rw[z] at d;simp only[cond_false,cond_true] at d;cases B:bl w with
  | false=>simp_all
  | true=>
  rw[B] at d;simp only[cond_true] at d;cases C:N w.loc e.loc with
  | false=>simp_all
  | true=>
  obtain⟨f,hf⟩:=gO_ (xJ hw<|uI hw);have E:f<H g:=(gA.1 hf).1;have G:eJ g f=q:=zs_ ((eE E).symm.trans hf);have u:dB g f=w:=by unfold dB;rw[G,hw];rfl
  refine⟨t,k,row,e,frow,q,h1,K,h3,h4,A,hq,?_,f,E,G,by rw[u];exact B,by rw[u,h4];rw[eB] at C;simpa using C,?_⟩
  ·grind [KO]
  rw[h1];intro e;rw[e] at z;exact absurd Z<|nA.1 z
theorem iX {x y:cD}:cL x.ints y.ints=true↔x=y:=by
 rw[dF];constructor
 ·intro h;obtain⟨a,b⟩:=x;obtain⟨c,d⟩:=y;have h: [a,b]= [c,d]:=h
  simp_all
 intro h;rw[h]
theorem gL {g:XG} (A:cG g) {i:Nat} (hi:i<H g) (hr:cC (dB g i)=true):∃f,f<H g/\eH g i= .ofNat f/\eJ g f=KO g (eJ g i)/\bl (dB g f)=true/\(dB g f).loc=(dB g i).loc/\f≠i:=by
 obtain⟨t,k,row,e,frow,q,h1,h2,h3,h4,h5,h6,w,f,hf,d,hw,hl,u⟩:=yP A hi hr;refine⟨f,hf,?_,by rw[d,w],hw,hl,fun e=>u (by rw[<-d,e])⟩;unfold eH;rw[hr,w]
 have:=se (p:=fun x:cD=>cL x.ints q.ints) (l:=gj g) (i:=0) (n:=f) (by rw[eE hf,d]) (iX.2 Z) fun k y hk z=>by
  cases B:cL y.ints q.ints with
  | false=>rfl
  | true=>
   rw[iX.1 B] at z;have:=sd z (by rw[eE hf,d]);omega
 simp_all
theorem Dk {x:Nat} (h:j<64):N (tmod (fdiv (.ofNat x) (2 ^ min (toNat (.ofNat j)) 64)) 2) 0= !x.testBit j:=by
 have e1:min (toNat (.ofNat j)) 64=j:=by grind
 rw[e1,xR]
 have d:fdiv (.ofNat x) (.ofNat (2 ^ j))= .ofNat (x/2 ^ j):=by
  grind
 rw[d];have u:tmod (.ofNat (x/2 ^ j)) 2= .ofNat (x/2 ^ j%2):=rfl;rw[u,Nat.testBit_eq_decide_div_mod_eq];show Nat.beq (x/2 ^ j%2) 0=_;have:x/2 ^ j%2<2:=Nat.mod_lt _ oM;generalize x/2 ^ j%2=y at*
 match y,this with
 | 0,_=>rfl
 | 1,_=>rfl
inductive Sq (g:XG) (w:Nat):Nat->Prop where
 | base:Sq g w w
 | step {i f:Nat} (hi:i<H g) (hk:N (dB g i).kind 3=true) (hf:eH g i= .ofNat f) (h:Sq g w f):Sq g w i
open Classical in
def nJ (g:XG) (w:Nat):Nat->Bool:=fun k=>decide (Sq g w k)
theorem rF {g:XG} {w k:Nat}:nJ g w k=true↔Sq g w k:=by unfold nJ;simp
def im (n:Nat) (p:Nat->Bool):Nat:=((range n).filter p).length
theorem Cr (n:Nat) (p:Nat->Bool):im n p<=n:=by
 grind [im]
theorem AL {n:Nat} {q:Nat->Bool} (h:∀k,p k=true->q k=true):im n p<=im n q:=(filter_lt fun x _=>h x).1
theorem Lm {n i:Nat} (hi:i<n) (h:p i=false):im n p<im n fun k=>p k || decide (k=i):=
 (filter_lt (fun x _ hx=>by simp[hx])).2 ⟨i,List.mem_range.2 hi,h,by simp⟩
theorem ic {e:cz} (h:N e.kind 3=true):cC e=true:=by unfold cC;simp_all
theorem Qu {g:XG} {w:Nat} (hw:p w=true) (hs:∀k,p k=true->Sq g w k) (hc:∀i f,i<H g->N (dB g i).kind 3=true->eH g i= .ofNat f->p f=true->p i=true):bA (H g) p=bA (H g) (nJ g w):=by
 refine lU fun k _=>?_
 have aa:∀{k},Sq g w k->p k=true:=fun h=>by
  induction h with
  | base=>exact hw
  | step hi hk hf _ ih=>grind
 grind [rF]
theorem jZ {n:Nat} {R:Rn} {a b:Nat}:(a,b)∈jJ n R↔a<n/\b<n/\R a b=true:=by
 unfold jJ
 simp_all
theorem CP {l:List (Nat×Nat)} {a b:Nat}:xy l a b=true↔(a,b)∈l:=by
 unfold xy
 simp_all
theorem mN {n:Nat} {R:Rn}:bp n (xy<|jJ n R)=bp n R:=by
 refine cy fun a b ha hb=>?_
 rw[zd_,CP,jZ]
 simp_all
theorem pt {n:Nat} {R:Rn}:∀p∈jJ n R,p.1<n/\p.2<n:=fun⟨a,b⟩ h=>⟨(jZ.1 h).1,(jZ.1 h).2.1⟩
theorem F.Tx {A B C D_:Own} (h:F V K (A++(B++(C++(D_++L))))):∃d,KP.le K d/\(∀e∈A,d e.1 e.2)/\(∀e∈B,d e.1 e.2)/\(∀e∈C,d e.1 e.2)/\(∀e∈D_,d e.1 e.2)/\F V d L:=
 ⟨(((K.qE A).qE B).qE C).qE D_,fun b o hb=>.inl (.inl (.inl (.inl hb))),fun e he=>.inl (.inl (.inl (.inr he))),fun e he=>.inl (.inl (.inr he)),fun e he=>.inl (.inr he),fun e he=>.inr he,h.keeps.keeps.keeps.keeps⟩
def js (g:XG) (w:Nat):Bool:=bif bl (dB g w) then bC (N (dB g w).order 1) else false
def gX (g:XG) (w b:Nat):Bool:=bif cC (dB g b) then(bif N (dB g b).order 1 then false else nJ g w (eH g b).toNat) else false
def fZ (g:XG) (w r:Nat):Bool:=bif ru g r then(bif N (.ofNat r) (.ofNat w) then true else bif N (dB g r).kind 4 then jk g r w else false) else false
def fU (g:XG) (b a:Nat):Bool:=bif sN g a then(bif N (.ofNat a) (.ofNat b) then true else bif N (dB g a).kind 4 then jk g b a else false) else false
def nc {α:Type} (c:Nat->Bool) (f:Nat->List α):Nat->List α
 | 0=>[]
 | k+1=>nc c f k++(bif c k then f k else [])
def l4 (g:XG) (b r k:Nat):List (Nat×Nat):=nc (fU g b) (fun a=>[(r,a)]) k
def l3 (g:XG) (w b k:Nat):List (Nat×Nat):=nc (fZ g w) (fun r=>l4 g b r (H g)) k
def l2 (g:XG) (w k:Nat):List (Nat×Nat):=nc (gX g w) (fun b=>l3 g w b (H g)) k
def l1 (g:XG) (k:Nat):List (Nat×Nat):=nc (js g) (fun w=>l2 g w (H g)) k
theorem jV {α:Type} {c:Nat->Bool} {f:Nat->List α} {x:α}:∀{k:Nat},x∈nc c f k↔∃i,i<k/\c i=true/\x∈f i
 | 0=>⟨(fun h=>by cases h),fun⟨i,h,_⟩=>absurd h<|nZ_ _⟩
 | k+1=>by
  unfold nc;rw[List.mem_append,jV (k:=k)]
  grind
theorem r8 {α:Type} {c:Nat->Bool} {f:Nat->List α} {m:Nat} (h:∀i,c i=true->(f i).length<=m):∀{k:Nat},(nc c f k).length<=im k c*m
 | 0=>zero_le _
 | k+1=>by
  unfold nc;have ih:=r8 (c:=c) (f:=f) h (k:=k)
  have d:im (k+1) c=im k c+(bif c k then 1 else 0):=by
   grind [im,range_succ]
  rw[lA_,d]
  grind
def sU (g:XG):Rn:=xy (l1 g<|H g)
theorem vx {g:XG} {r a:Nat}:sU g r a=true↔∃w b,w<H g/\b<H g/\r<H g/\a<H g/\js g w=true/\gX g w b=true/\fZ g w r=true/\fU g b a=true:=by
 unfold sU;rw[CP];unfold l1;rw[jV];constructor
 ·rintro ⟨w,hw,cw,h⟩;obtain⟨b,hb,cb,h⟩:=jV.1 h;obtain⟨r',hr,cr,h⟩:=jV.1 h;obtain⟨a',d,ca,h⟩:=jV.1 h
  grind
 rintro ⟨w,b,hw,hb,hr,d,cw,cb,cr,ca⟩;exact⟨w,hw,cw,jV.2 ⟨b,hb,cb,jV.2 ⟨r,hr,cr,jV.2 ⟨a,d,ca,List.mem_singleton.2 Z⟩⟩⟩⟩
theorem TA {g:XG}:∀p∈l1 g (H g),p.1<H g/\p.2<H g:=fun⟨r,a⟩ h=>by
 obtain⟨_,_,_,_,hr,d,_⟩:=vx.1 (CP.2 h:sU g r a=true);exact⟨hr,d⟩
theorem Ib:∀{l:List (List cz)} {t T:Nat},T<t+1->(kr l t).filter (fun id=>N id.br (.ofNat T))= []
 | [],_,_,_=>rfl
 | r::l,t,T,h=>by
  unfold kr;rw[filter_append,Ib oM,zk_,filter_eq_nil_iff];intro a d;obtain⟨k,_,rfl⟩:=zn_.1 d;simp only[dY,decide_eq_true_eq];omega
theorem Ez:∀{l:List (List cz)} {t T:Nat},(∀r∈l,r.length<=14)->((kr l t).filter (fun id=>N id.br (.ofNat T))).length<=14
 | [],_,_,_=>zero_le _
 | r::l,t,T,h=>by
  unfold kr;rw[filter_append,lA_];rcases Nat.lt_or_ge T (t+2) with hT | hT
  ·rw[Ib (l:=l) (t:=t+1) (T:=T) oM]
   grind
  have:((range r.length).map fun i=>(⟨.ofNat (t+1),.ofNat i⟩:cD)).filter (fun id=>N id.br (.ofNat T))= []:=by
   rw[filter_eq_nil_iff];intro a d;obtain⟨k,_,rfl⟩:=zn_.1 d;simp only[dY,decide_eq_true_eq];omega
  rw[this];have:=Ez (l:=l) (t:=t+1) (T:=T) fun r hr=>h r (mC_ _ hr)
  simpa using this
theorem Pt {g:XG}:gj g=(range<|H g).map (eJ g):=by
 refine zf_ fun i=>?_
 grind [H,eE]
theorem z8 {g:XG} (d:cG g) (T:Nat):im (H g) (fun a=>N (eJ g a).br (.ofNat (T+1)))<=14:=by
 have h1:((gj g).filter (fun id=>N id.br (.ofNat (T+1)))).length<=14:=by
  unfold gj;rw[filter_append,lA_]
  have:((range g.init.length).map fun i=>(⟨0,.ofNat i⟩:cD)).filter (fun id=>N id.br (.ofNat (T+1)))= []:=by
   rw[filter_eq_nil_iff];intro a u;obtain⟨k,_,rfl⟩:=zn_.1 u;show¬N (.ofNat 0) (.ofNat (T+1))=true;simp only[dY,decide_eq_true_eq];omega
  rw[this]
  have:=Ez (l:=g.threads) (t:=0) (T:=T+1) fun r hr=>by
   obtain⟨i,hi⟩:=gO_ hr;exact d.short i r hi
  simpa using this
 rw[Pt,List.filter_map,lM_] at h1;exact h1
theorem Lp {n:Nat} {q r:Nat->Bool} (h:∀i,i<n->p i=true->q i=true∨r i=true):im n p<=im n q+im n r:=by
 unfold im
 have:∀l:List Nat,(∀i∈l,p i=true->q i=true∨r i=true)->(l.filter p).length<=(l.filter q).length+(l.filter r).length:=by
  intro l;induction l with
  | nil=>intro _;simp
  | cons x l ih=>
   grind
 simp_all
theorem HZ {n w:Nat}:im n (fun i=>N (.ofNat i) (.ofNat w))<=1:=by
 induction n with
 | zero=>exact zero_le _
 | succ n ih=>
  have u:im (n+1) (fun i=>N (.ofNat i) (.ofNat w))=im n (fun i=>N (.ofNat i) (.ofNat w))+(bif N (.ofNat n) (.ofNat w) then 1 else 0):=by
   unfold im;rw[range_succ,filter_append,lA_]
   grind
  rw[u];cases d:N (.ofNat n) (.ofNat w) with
  | false=>simpa using ih
  | true=>
   have hn:n=w:=by rw[dY] at d;simpa using d
   have:im n (fun i=>N (.ofNat i) (.ofNat w))=0:=by
    unfold im;rw[List.length_eq_zero_iff,filter_eq_nil_iff];intro i hi;have:=List.mem_range.1 hi;simp only[dY,decide_eq_true_eq];omega
   rw[this];simp
theorem Cz {g:XG} {i:Nat} (hi:i<H g) (h:N (dB g i).kind 2=false):∃T:Nat,(eJ g i).br= .ofNat (T+1):=by
 rcases fp hi with ⟨x,v,h1,h2,h3⟩ | ⟨t,k,row,e,h1,_⟩
 ·rw[h3] at h;exact Bool.noConfusion (show true=false from h)
 grind
theorem JM {e:cz} {n:Int} (h:N e.kind n=true) (hn:n≠2):N e.kind 2=false:=by
 grind [eB]
theorem Iy {g:XG} {i T:Nat} (hi:(eJ g i).br= .ofNat (T+1)) (h:jk g i j=true):(eJ g j).br= .ofNat (T+1):=by
 unfold jk at h;rw[hi] at h;have e1:N (.ofNat (T+1)) 0=false:=rfl;rw[e1] at h;simp only[cond_false] at h;cases d:cM 0 (.ofNat (T+1)) with
 | false=>rw[d] at h;cases h
 | true=>
  rw[d] at h;simp only[cond_true] at h;cases h3:N (.ofNat (T+1)) (eJ g j).br with
  | false=>rw[h3] at h;cases h
  | true=>rw[eB] at h3;simp_all
theorem U3 {g:XG} (u:cG g) {b:Nat} (hb:b<H g) (hr:cC (dB g b)=true):im (H g) (fU g b)<=15:=by
 obtain⟨T,hT⟩:∃T:Nat,(eJ g b).br= .ofNat (T+1):=by
  rcases fp hb with ⟨x,v,h1,d,h3⟩ | ⟨t,k,row,e,h1,_⟩
  ·rw[h3] at hr;exact Bool.noConfusion (show false=true from hr)
  grind
 refine Nat.le_trans (Lp (q:=fun a=>N (.ofNat a) (.ofNat b)) (r:=fun a=>N (eJ g a).br (.ofNat (T+1))) fun a ha h=>?_)<|Nat.add_le_add HZ<|z8 u T;unfold fU at h;cases h1:sN g a with
 | false=>rw[h1] at h;cases h
 | true=>
 rw[h1] at h;simp only[cond_true] at h;cases d:N (.ofNat a) (.ofNat b) with
 | true=>exact .inl Z
 | false=>
 rw[d] at h;simp only[cond_false] at h
 grind [Iy,dt]
theorem To {g:XG} (u:cG g) {w:Nat} (hw:w<H g):im (H g) (fZ g w)<=15:=by
 refine Nat.le_trans (Lp (q:=fun a=>N (.ofNat a) (.ofNat w)) (r:=fun a=>bif N (dB g a).kind 4 then jk g a w else false) fun a d h=>?_) ?_
 ·unfold fZ at h
  simp_all
 refine Nat.le_trans (Nat.add_le_add HZ (?_:_<=14)) (by decide)
 by_cases hex:∃a,a<H g/\(bif N (dB g a).kind 4 then jk g a w else false)=true
 ·obtain⟨a,d,h⟩:=hex
  have fen:∀{a},a<H g->(bif N (dB g a).kind 4 then jk g a w else false)=true->∃T:Nat,(eJ g a).br= .ofNat (T+1)/\(eJ g w).br= .ofNat (T+1):=by
   grind [Cz,JM,Iy]
  obtain⟨T,_,hT⟩:=fen d h;refine Nat.le_trans (filter_lt fun x hx hp=>?_).1<|z8 u T
  grind [dt]
 grind [im,filter_eq_nil_iff]
theorem r9 {c:Nat->Bool} {f:Nat->List α} {k:Nat} (h:c k=true):nc c f (k+1)=nc c f k++f k:=by rw[nc,h];rfl
theorem uM {c:Nat->Bool} {f:Nat->List α} {k:Nat} (h:c k=false):nc c f (k+1)=nc c f k:=by rw[nc,h];simp_all
section
variable {g:XG} {w b r a:Nat} {X Y0 Zv:List (Nat×Nat)}
theorem UR (h:fU g b a=true):(X++(Y0++(Zv++l4 g b r a)))++[(r,a)]=X++(Y0++(Zv++l4 g b r (a+1))):=by
 grind [l4,r9]
theorem Tb (h:fU g b a=false):X++(Y0++(Zv++l4 g b r a))=X++(Y0++(Zv++l4 g b r (a+1))):=by rw[show l4 g b r (a+1)=l4 g b r a from uM h]
theorem Wd (h:fZ g w r=true):X++(Y0++(l3 g w b r++l4 g b r (H g)))=X++(Y0++l3 g w b (r+1)):=by grind [l3,r9]
theorem VG (h:fZ g w r=false):X++(Y0++l3 g w b r)=X++(Y0++l3 g w b (r+1)):=by rw[show l3 g w b (r+1)=l3 g w b r from uM h]
theorem WM (h:gX g w b=true):X++(l2 g w b++l3 g w b (H g))=X++l2 g w (b+1):=by grind [l2,r9]
theorem VF (h:gX g w b=false):X++l2 g w b=X++l2 g w (b+1):=by rw[show l2 g w (b+1)=l2 g w b from uM h]
theorem Wc (h:js g w=true):l1 g w++l2 g w (H g)=l1 g (w+1):=by grind [l1,r9]
theorem VE (h:js g w=false):l1 g w=l1 g (w+1):=by rw[show l1 g (w+1)=l1 g w from uM h]
theorem Nv {i:Nat} (h:cC (dB g i)=true):i<H g:=by
 rcases Nat.lt_or_ge i (H g) with hi | hi
 ·exact hi
 have e1:eJ g i=⟨0,0⟩:=by unfold eJ;rw[gN_ hi];rfl
 unfold dB at h;rw[e1] at h;have d:cX g ⟨0,0⟩=(g.init[0]?).map fun v=>(⟨2,(0:Nat),1,0,v⟩:cz):=rfl
 rw[d] at h;cases h3:g.init[0]? with
 | none=>rw[h3] at h;exact Bool.noConfusion (show false=true from h)
 | some v=>rw[h3] at h;exact Bool.noConfusion (show false=true from h)
theorem Ln {k n:Nat} (h:k<=n):im k p<=im n p:=by
 unfold im;exact((List.range_sublist.2 h).filter p).length_le
theorem Ms (d:cG g) (hr:cC (dB g b)=true) {k:Nat} (hk:k<=H g):(l4 g b r k).length<=15:=by
 have h1:=r8 (c:=fU g b) (f:=fun a=>[(r,a)]) (m:=1) (fun _ _=>nR_ _) (k:=k);have h2:=U3 d (Nv hr) hr;have h3:=Ln (p:=fU g b) hk;unfold l4;omega
theorem Mr (d:cG g) (hw:w<H g) (hr:cC (dB g b)=true) {k:Nat} (hk:k<=H g):(l3 g w b k).length<=225:=by
 have h1:=r8 (c:=fZ g w) (f:=fun r=>l4 g b r<|H g) (m:=15) (fun _ _=>Ms d hr (nR_ _)) (k:=k);have h2:=To d hw;have h3:=Ln (p:=fZ g w) hk;unfold l3;omega
theorem wN (h:gX g w b=true):cC (dB g b)=true:=by
 grind [gX]
theorem Mq (d:cG g) (hw:w<H g) {k:Nat} (hk:k<=H g):(l2 g w k).length<=13950:=by
 have h1:=r8 (c:=gX g w) (f:=fun b=>l3 g w b<|H g) (m:=225) (fun _ h=>Mr d hw (wN h) (nR_ _)) (k:=k)
 grind [Cr,kI,l2]
theorem Sa (d:cG g) {k:Nat} (hk:k<=H g):(l1 g k).length<=864900:=by
 have key:∀k,k<=H g->(l1 g k).length<=k*13950:=by
  intro k;induction k with
  | zero=>intro _;exact zero_le _
  | succ k ih=>
   intro hk;have ih:=ih oM;cases u:js g k with
   | true=>
    rw[<-Wc u,lA_];have:=Mq d (w:=k) oM (nR_<|H g);omega
   | false=>rw[<-VE u];grind
 have h1:=key k hk;have h3:=kI d;omega
theorem Di (hR:cG g) (hw:w<H g) (hb:b<H g) (hr:r<H g) (ha:a<H g) (aa:cC (dB g b)=true):(l1 g w++(l2 g w b++(l3 g w b r++l4 g b r a))).length+1<=1000000:=by
 grind [Sa,Mq,Mr,Ms]
end
def nu (g:XG) (id:cD):Int:=bif (cX g id).isSome then(bif bl (iE<|cX g id) then ey (fun x:cD=>cL x.ints id.ints) (cW g (iE<|cX g id).loc) 0 else-1) else-1
def lg (g:XG) (id:cD):Bool:=bif N id.br 0 then false else bif bC (N (iE<|cX g id).kind 3) then false else bC (N (nu g id)<|wr .i64<|Int.add (nu g<|KO g id) 1)
def wy (g:XG):Int:=ey (lg g) (gj g) 0
def jO (n:Nat) (R:Rn):Int:=ey (fun i=>kW n R i i) (range n) 0
def qR (g:XG):Rn:=kW (H g) (iY [qz g,nE g,pW g])
def xg (g:XG):Rn:=kW (H g) (iY [jk g,qz g])
def vH (g:XG):Rn:=kW (H g) (iY [jk g,sU g])
def Cc (g:XG):Rn:=iY [jk g,qz g,nE g,pW g]
def yl (g:XG):Bool:=(jJ (H g)<|sO (vH g)<|l8<|qR g).any fun p=>bC (N (.ofNat p.1) (.ofNat p.2))
def eh (g:XG) (x:Int):Bool:=
 bif N x 2 then bC (cM (wy g) 0) else bif N x 3 then bC (cM (jO (H g)<|xg g) 0) else bif N x 4 then bC (cM (jO (H g)<|vH g) 0) else
 bif N x 6 then bC (cM (jO (H g)<|Cc g) 0) else bif N x 5 then yl g else false
def eL (m:Int):List Int:=bif N m 1 then [1,2,6] else bif N m 2 then [1,2,3,4,5] else []
def iG (m:Int) (g:XG):Bool:=bif N (.ofNat (eL m).length) 0 then false else bif N (cY g) 0 then(eL m).any (eh g) else true
theorem kG {α:Type} {p:α->Bool}:∀{l:List α} {i:Nat},cM (ey p l i) 0= !(l.any p)
 | [],_=>rfl
 | x::l,i=>by
  unfold ey;rw[any_cons];cases hx:p x with
  | true=>rfl
  | false=>rw[Bool.false_or];exact kG
structure Pm (n:Nat) (p q:Nat->Nat):Prop where
 lt:∀t,t<n->p t<n
 W5:∀t,t<n->q t<n
 qp:∀t,t<n->q (p t)=t
 pq:∀t,t<n->p (q t)=t
section
variable {n:Nat} {p q:Nat->Nat} {g:XG}
theorem sl (d:cG g) {r:List cD} (hr:g.order[ln]? =some r) {x:cD} (hx:x∈r):∃(t k:Nat) (row:List cz) (e:cz),x=⟨.ofNat (t+1),.ofNat k⟩/\g.threads[t]? =some row/\row[k]? =some e/\bl e=true/\e.loc= .ofNat ln:=by
 have h:(x.ints,Int.ofNat ln)∈jA g.order 0:=iN.2 ⟨ln,r,x,hr,hx,Z,by rw[nA_]⟩;obtain⟨t,k,row,e,h1,u,h3,h4,h5⟩:=jc.1 (d.perm.mem_iff.2 h);rw[nA_] at h4;exact⟨t,k,row,e,l5 h4,h1,u,h3,h5.symm⟩
end
section
variable {g:XG}
theorem R8 {e:cz} (h:bl e=true):N e.kind 4=false:=by
 unfold bl at h;cases d:N e.kind 2 with
 | true=>rw[eB] at d⊢;simp_all
 | false=>
  rw[d] at h;have h:N e.kind 3=true:=h;rw[eB] at h⊢;simp_all
theorem og (A:cG g) {i:Nat} (hi:i<H g):(bl (dB g i)=true/\∃p:Nat,dR g i= .ofNat p)∨(bl (dB g i)=false/\dR g i= -1):=by
 rcases fp hi with ⟨x,v,h1,_,h3⟩ | ⟨t,k,row,e,h1,w,h3,h4⟩
 ·refine .inl ⟨by rw[h3];rfl,0,?_⟩;unfold dR;rw[h1];rfl
 have hp:dR g i=(bif cM (ey (fun x:cD=>cL x.ints (eJ g i).ints) (jI g e.loc) 0) 0 then-1 else wr .i64 (Int.add (ey (fun x:cD=>cL x.ints (eJ g i).ints) (jI g e.loc) 0) 1)):=by
  unfold dR;rw[h4];have:N (eJ g i).br 0=false:=by rw[h1];rfl
  rw[this];rfl
 cases hw:bl e with
 | true=>
  refine .inl ⟨by rw[h4];exact hw,?_⟩;have hm:((⟨.ofNat (t+1),.ofNat k⟩:cD).ints,e.loc)∈fV g.threads 0:=jc.2 ⟨t,k,row,e,w,h3,hw,by rw[nA_];rfl,Z⟩;obtain⟨ln,r,id,G,k2,K,L⟩:=iN.1 (A.perm.mem_iff.1 hm);rw[nA_] at L;have B:id=eJ g i:=by rw[h1];exact(l5 K).symm
  subst B;have z:jI g e.loc=r:=by unfold jI;simp_all
  rw[z] at hp
  have d:cM (ey (fun x:cD=>cL x.ints (eJ g i).ints) r 0) 0=false:=by
   have u:(r.any fun x:cD=>cL x.ints (eJ g i).ints)=true:=List.any_eq_true.2 ⟨_,k2,dF.2 Z⟩;rw[kG,u];rfl
  obtain⟨a,C,aa⟩:∃a:Nat,ey (fun x:cD=>cL x.ints (eJ g i).ints) r 0= .ofNat a/\a<r.length:=by
   have:∀{l:List cD} {b:Nat},l.any (fun x:cD=>cL x.ints (eJ g i).ints)=true->∃a:Nat,ey (fun x:cD=>cL x.ints (eJ g i).ints) l b= .ofNat (b+a)/\a<l.length:=by
    intro l;induction l with
    | nil=>intro b h;cases h
    | cons y l ih=>
     intro b h;unfold ey;cases M:cL y.ints (eJ g i).ints with
     | true=>grind
     | false=>
      rw[any_cons,M,Bool.false_or] at h;obtain⟨a,h1,w⟩:=ih (b:=b+1) h;exact⟨a+1,by grind,Nat.succ_lt_succ w⟩
   obtain⟨a,h1,w⟩:=this (b:=0) (List.any_eq_true.2 ⟨_,k2,dF.2 Z⟩)
   grind
  have hrl:=iq (cP.2 A) r (gB_ G);refine⟨a+1,?_⟩;rw[hp,d,C];exact aX oM
 | false=>
  refine .inr ⟨by rw[h4];exact hw,?_⟩
  have E:(jI g e.loc).any (fun x:cD=>cL x.ints (eJ g i).ints)=false:=by
   refine List.any_eq_false.2 fun x hx Q=>?_
   have e1:x=eJ g i:=l5 (dF.1 Q);unfold jI at hx;cases z:g.order[e.loc.toNat]? with
   | none=>simp_all
   | some r=>
    rw[z] at hx;obtain⟨t',k',row',e',j1,j2,j3,j4,_⟩:=sl A z hx
    grind
  rw[hp,kG,E];rfl
def tg (g:XG) (i j:Nat):Bool:= !(N (dB g i).kind 4) && (!(N (dB g j).kind 4) && N (dB g i).loc (dB g j).loc)
theorem U5 (d:cG g) {i:Nat} (hi:i<H g) (hj:j<H g):(!(cM (dR g i) 0) && (tg g i j && cM (dR g i) (dR g j)))=nE g i j:=by
 unfold nE tg;have neg:∀a:Nat,cM (Int.ofNat a) 0=false:=fun a=>by rw[show(0:Int)= .ofNat 0 from Z,gP];simp
 rcases og d hi with ⟨h1,p,u⟩ | ⟨h1,u⟩
 ·rcases og d hj with ⟨w,q,k2⟩ | ⟨w,k2⟩
  ·grind [R8]
  have:cM (dR g i) (dR g j)=false:=by
   grind [eU]
  simp_all
 have:cM (dR g i) 0=true:=by rw[u];rfl
 rw[h1,this];rfl
theorem Vd (d:cG g) {i:Nat} (hi:i<H g) (hj:j<H g):(!(N (.ofNat i) (.ofNat j)) && (!(cM (eH g i) 0) && nE g (eH g i).toNat j))=pW g i j:=by
 unfold pW;cases hr:cC (dB g i) with
 | false=>
  have:eH g i= -1:=by unfold eH;rw[hr];rfl
  rw[this];cases N (.ofNat i) (.ofNat j)<;>rfl
 | true=>
  obtain⟨f,_,u,_⟩:=gL d hi hr;have:cM (eH g i) 0=false:=by rw[u,show(0:Int)= .ofNat 0 from Z,gP];simp
  rw[this];cases N (.ofNat i) (.ofNat j)<;>rfl
theorem TD {i:Nat}:(!(N (.ofNat i) (.ofNat j)) && tg g i j)=tT g i j:=by
 unfold tT tg;cases N (.ofNat i) (.ofNat j)<;>cases N (dB g i).kind 4<;>cases N (dB g j).kind 4<;>rfl
theorem UC {i:Nat} (hi:i<H g) (hj:j<H g):(!(N (eJ g j).br 0) && (N (eJ g i).br 0 || (N (eJ g i).br (eJ g j).br && cM (eJ g i).index (eJ g j).index)))=jk g i j:=by
 unfold jk;have pos:∀a:Nat,cM 0 (Int.ofNat (a+1))=true:=fun a=>by rw[show(0:Int)= .ofNat 0 from Z,gP];simp
 rcases fp hi with ⟨x,v,h1,_⟩ | ⟨t,k,row,e,h1,_⟩<;>rcases fp hj with ⟨y,u,d,_⟩ | ⟨s,q,row',e',d,_⟩<;>rw[h1,d]<;>dsimp only
 ·rfl
 ·rw[pos];rfl
 ·rw[pos t];rfl
 rw[pos t,pos s];cases N (Int.ofNat (t+1)) (Int.ofNat (s+1))<;>rfl
end
section
variable {g:XG}
theorem yD {i:Nat} (hi:i<H g):cX g (eJ g i)=some (dB g i):=by
 rcases fp hi with ⟨x,v,h1,d,h3⟩ | ⟨t,k,row,e,h1,d,h3,h4⟩
 ·rw[h3,h1];show(g.init[x]?).map (fun v=>(⟨2,x,1,0,v⟩:cz))=_;rw[d];rfl
 rw[h1,fB,d,h4];exact h3
def oI (g:XG) (loc:Int) (id:cD):Int:=bif N id.br 0 then 0 else wr .i64 (Int.add (ey (fun x:cD=>cL x.ints id.ints) (jI g loc) 0) 1)
theorem zb {α:Type} {p:α->Bool}:∀{l:List α} {b:Nat},l.any p=true->∃a:Nat,a<l.length/\∀b,ey p l b= .ofNat (b+a)
 | [],_,h=>by cases h
 | y::l,b,h=>by
  cases d:p y with
  | true=>exact⟨0,Nat.succ_pos _,fun b=>by unfold ey;rw[d];rfl⟩
  | false=>
   rw[any_cons,d,Bool.false_or] at h;obtain⟨a,h1,h2⟩:=zb (b:=b) h
   exact⟨a+1,Nat.succ_lt_succ h1,fun b=>by
    grind [ey]⟩
theorem Bx (u:cG g) {i:Nat} (hi:i<H g) (hw:bl (dB g i)=true):nu g (eJ g i)=oI g (dB g i).loc (eJ g i):=by
 have hc:N (cY g) 0=true:=by rw[cP.2 u];rfl
 have key:∀{ln:Nat} {r:List cD},(dB g i).loc= .ofNat ln->g.order[ln]? =some r->nu g (eJ g i)=ey (fun x:cD=>cL x.ints (eJ g i).ints) (⟨0,.ofNat ln⟩::r) 0:=by
  grind [nu,yD,dB,gq]
 rcases fp hi with ⟨x,v,h1,A,h3⟩ | ⟨t,k,row,e,h1,A,h3,h4⟩
 ·have hx:x<g.order.length:=by rw[u.order];grind
  have hl:(dB g i).loc= .ofNat x:=by rw[h3]
  rw[key hl<|gC hx,h1];unfold oI;exact se (n:=0) Z (iX.2 Z) fun k _ hk _=>absurd hk (nZ_ _)
 have w:bl e=true:=by rw[<-h4];exact hw
 have hm:((⟨.ofNat (t+1),.ofNat k⟩:cD).ints,e.loc)∈fV g.threads 0:=jc.2 ⟨t,k,row,e,A,h3,w,by rw[nA_];rfl,Z⟩;obtain⟨ln,r,id,B,k2,E,C⟩:=iN.1 (u.perm.mem_iff.1 hm);rw[nA_] at C;have z:id=eJ g i:=by rw[h1];exact(l5 E).symm
 subst z;have hl:(dB g i).loc= .ofNat ln:=by rw[h4];exact C
 have d:(r.any fun x:cD=>cL x.ints (eJ g i).ints)=true:=List.any_eq_true.2 ⟨_,k2,dF.2 Z⟩;obtain⟨a,ha,hb⟩:=zb (b:=0) d;have hrl:=iq (cP.2 u) r (gB_ B)
 have aa:cL (⟨0,.ofNat ln⟩:cD).ints (eJ g i).ints=false:=by
  cases G:cL (⟨0,.ofNat ln⟩:cD).ints (eJ g i).ints with
  | false=>rfl
  | true=>
   have:=congrArg cD.br (iX.1 G)
   grind
 rw[key hl B];have K:jI g (dB g i).loc=r:=by unfold jI;simp_all
 have e1:ey (fun x:cD=>cL x.ints (eJ g i).ints) (⟨0,.ofNat ln⟩::r) 0= .ofNat (a+1):=by
  grind [ey]
 have L:oI g (dB g i).loc (eJ g i)= .ofNat (a+1):=by
  unfold oI;rw[K,hb,nA_,show N (eJ g i).br 0=false by rw[h1];rfl];exact aX oM
 rw[e1,L]
def Ci (g:XG) (t k:Nat) (e:cz):Bool:=bif N e.kind 3 then bC (N (oI g e.loc ⟨.ofNat (t+1),.ofNat k⟩)<|wr .i64<|Int.add (oI g e.loc<|KO g ⟨.ofNat (t+1),.ofNat k⟩) 1) else false
theorem HS (hR:cG g) {t k:Nat} {row:List cz} {e:cz} (B:g.threads[t]? =some row) (h3:row[k]? =some e):lg g ⟨.ofNat (t+1),.ofNat k⟩=Ci g t k e:=by
 have d:cX g ⟨.ofNat (t+1),.ofNat k⟩=some e:=by rw[fB,B];exact h3
 unfold lg Ci;rw[d,show iE (some e)=e from Z,show N (⟨.ofNat (t+1),.ofNat k⟩:cD).br 0=false from Z];cases hk:N e.kind 3 with
 | false=>rfl
 | true=>
  obtain⟨i,u⟩:=gO_ (xJ d<|uI d);have hi:i<H g:=(gA.1 u).1;have A:eJ g i=⟨.ofNat (t+1),.ofNat k⟩:=zs_ ((eE hi).symm.trans u);have w:dB g i=e:=zs_ ((yD hi).symm.trans (by rw[A];exact d));have z:e.kind=3:=by rw[eB] at hk;simp_all
  have aa:cC (dB g i)=true:=by rw[w];unfold cC;rw[z];rfl
  have ab:bl (dB g i)=true:=by rw[w];unfold bl;rw[z];rfl
  grind [gL,Bx,bC]
def uv (g:XG) (t k:Nat):Prop:=(iW g g.init.length t k).any (lg g)=false
theorem LV:uv g 0 0:=by
 unfold uv;refine List.any_eq_false.2 fun x hx=>?_
 unfold iW at hx;simp only[take_zero,kr,List.range_zero,List.map_nil,zk_,zn_] at hx;obtain⟨i,_,rfl⟩:=hx;exact Bool.false_ne_true
theorem LW {t k:Nat} {row:List cz} {e:cz} (hR:cG g) (h:uv g t k) (h2:g.threads[t]? =some row) (h3:row[k]? =some e) (hb:Ci g t k e=false):uv g t (k+1):=by
 grind [uv,y8,HS]
theorem RW {t:Nat} {row:List cz} (h:uv g t row.length) (d:g.threads[t]? =some row):uv g (t+1) 0:=by
 unfold uv at h⊢;rw[<-GJ d];exact h
theorem LS {t:Nat} (h:uv g t 0) (ht:g.threads.length<=t):cM (wy g) 0=true:=by
 grind [wy,uv,y5,kG]
theorem ED {α:Type} {p:α->Bool}:∀{l r:List α} {x:α} {b:Nat},l.any p=false->p x=true->ey p (l++x::r) b= .ofNat (b+l.length)
 | [],r,x,b,_,hx=>by show ey p (x::r) b=_;unfold ey;rw[hx];rfl
 | y::l,r,x,b,h,hx=>by
  rw[any_cons,Bool.or_eq_false_iff] at h;show ey p (y::(l++x::r)) b=_;unfold ey;rw[h.1];show ey p (l++x::r) (b+1)=_;rw[ED h.2 hx,zc_,show b+1+l.length=b+(l.length+1) by omega]
theorem y9:∀{l:List (List cz)} {t s k:Nat} {row:List cz},l[t]? =some row->k<row.length->∃r,kr l s=kr (l.take t) s++((range k).map fun i=>(⟨.ofNat (s+t+1),.ofNat i⟩:cD))++⟨.ofNat (s+t+1),.ofNat k⟩::r
 | [],_,_,_,_,h,_=>by cases h
 | r::l,0,s,k,row,h,hk=>by
  simp only[zm_,oJ_] at h;subst h
  have aa:range r.length=range k++k::(range (r.length-k-1)).map (fun i=>i+(k+1)):=by
   apply zf_;intro n;rcases Nat.lt_trichotomy n k with hn | hn | hn
   ·grind
   ·simp_all
   rw[gR_ (by simp;omega),length_range]
   grind
  unfold kr
  simp_all
 | r::l,t+1,s,k,row,h,hk=>by
  obtain⟨x,hx⟩:=y9 (l:=l) (t:=t) (s:=s+1) (by simpa using h) hk
  grind [kr]
theorem LU {t k:Nat} {row:List cz} {e:cz} (w:cG g) (h:uv g t k) (u:g.threads[t]? =some row) (h3:row[k]? =some e) (hb:Ci g t k e=true):wy g= .ofNat (iW g g.init.length t k).length:=by
 unfold wy uv at*;obtain⟨r,hr⟩:=y9 (s:=0) u (gA.1 h3).1;rw[nA_] at hr
 have d:gj g=iW g g.init.length t k++⟨.ofNat (t+1),.ofNat k⟩::r:=by
  grind [gj,iW]
 rw[d,ED h (by rw[HS w u h3];exact hb),nA_]
def zX (n:Nat) (R:Rn):Int:=ey (fun i=>R i i) (range n) 0
theorem NJ {n i:Nat} {R:Rn} (hi:i<n) (h:R i i=true) (hb:∀j,j<i->R j j=false):zX n R= .ofNat i:=by
 unfold zX
 have:=se (p:=fun i=>R i i) (l:=range n) (i:=0) (n:=i) (zr_ hi) h fun k y hk hy=>by
  grind
 simp_all
theorem Qs {n:Nat} {R:Rn} (hb:∀j,j<n->R j j=false):cM (zX n R) 0=true:=by
 unfold zX;rw[kG,List.any_eq_false.2 fun x hx=>by simp_all];rfl
theorem O6 {a b:Nat} (d:a<H g) (hb:b<H g) (aa:a≠b) (h1:vH g a b=true) (u:qR g b a=true):yl g=true:=by
 unfold yl;refine List.any_eq_true.2 ⟨(a,b),jZ.2 ⟨d,hb,?_⟩,?_⟩
 ·unfold sO l8;rw[h1,u];rfl
 grind [bC,dY]
theorem O7 (h:∀a b,a<H g->b<H g->a≠b->vH g a b=true->qR g b a=false):yl g=false:=by
 unfold yl;refine List.any_eq_false.2 fun p hp he=>?_
 obtain⟨a,b⟩:=p;obtain⟨h1,h2,h3⟩:=jZ.1 hp;unfold sO l8 at h3;rw[bA_] at h3
 have aa:a≠b:=by
  rintro rfl;have he:bC (N (.ofNat a) (.ofNat a))=true:=he;rw[dY,decide_eq_true Z] at he;cases he
 grind
end
section
variable {g:XG}
theorem qT {a b:Nat}:N (.ofNat a) (.ofNat b)=true↔a=b:=by rw[dY];simp
def yW (g:XG) (p:Nat->Bool) (n:Nat):Bool:=N (dB g n).kind 3 && p (eH g n).toNat
def jW (g:XG) (p:Nat->Bool):Nat->Bool:=fun n=>p n || yW g p n
structure DD (g:XG) (w:Nat) (p:Nat->Bool):Prop where
 at_:p w=true
 sound:∀k,k<H g->p k=true->Sq g w k
theorem SG {w:Nat}:DD g w fun n=>decide (n=w):=⟨by simp,fun k _ h=>by
 have e:k=w:=by simpa using h
 subst e;exact .base⟩
theorem Qw {w:Nat} (hw:w<H g):bA (H g) (fun n=>decide (n=w))=2 ^ w:=by
 have:=lh (n:=H g) (fun _=>false) hw;rw[lj,Nat.zero_or] at this
 simp_all
theorem Qz (u:cG g) {w:Nat} (h:DD g w p):DD g w (jW g p):=by
 refine⟨by unfold jW;rw[h.at_];rfl,fun k hk hp=>?_⟩;unfold jW yW at hp;cases h1:p k with
 | true=>exact h.sound k hk h1
 | false=>
  rw[h1,Bool.false_or,bA_] at hp;obtain⟨f,hf,d,_⟩:=gL u hk (ic hp.1);rw[d] at hp;exact .step hk hp.1 d<|h.sound f hf hp.2
theorem JB:bA (H g) p ||| bA (H g) (yW g p)=bA (H g) (jW g p):=qI ..
theorem JC (h:bA (H g) p≠bA (H g) (jW g p)):im (H g) p<im (H g) (jW g p):=by
 refine(filter_lt fun x _ hx=>by unfold jW;rw[hx];rfl).2 ?_;refine zo_ fun aa=>h (lU fun j hj=>?_)
 grind [jW]
theorem Qy (A:cG g) {w:Nat} (hw:w<H g) (h:DD g w p) (d:bA (H g) p=bA (H g) (jW g p)):bA (H g) p=bA (H g) (nJ g w):=by
 refine lU fun k hk=>?_
 have u:∀{k},Sq g w k->k<H g->p k=true:=fun B=>by
  induction B with
  | base=>exact fun _=>h.at_
  | @step i f hi z hf _ ih=>
   intro _;obtain⟨f',aa,ab,_⟩:=gL A hi (ic z);obtain rfl:f=f':=by grind
   rw[rW d hi];unfold jW yW
   simp_all
 cases hb:nJ g w k with
 | true=>exact u (rF.1 hb) hk
 | false=>
  cases hp:p k with
  | false=>rfl
  | true=>rw[rF.2<|h.sound k hk hp] at hb;cases hb
theorem yp {w:Nat}:js g w=(bl (dB g w) && !(N (dB g w).order 1)):=by unfold js;cases bl (dB g w)<;>rfl
theorem yn {w b:Nat}:gX g w b=(cC (dB g b) && (!(N (dB g b).order 1) && nJ g w (eH g b).toNat)):=by
 grind [gX]
theorem qN {w r:Nat}:fZ g w r=(ru g r && (N (.ofNat r) (.ofNat w) || (N (dB g r).kind 4 && jk g r w))):=by
 grind [fZ]
def Jb (g:XG) (s:Nat->Bool) (a:Nat):Bool:=s a || (N (dB g a).kind 4 && (range<|H g).any fun b=>s b && jk g b a)
theorem HT {s:Nat->Bool} {a:Nat}:(bA (H g) s &&& bA (H g) (fun b=>jk g b a))≠0↔((range<|H g).any fun b=>s b && jk g b a)=true:=by
 rw[AD];constructor
 ·intro h;refine zo_ fun aa=>h ?_
  rw[<-lj (H g)]
  grind [lU]
 intro h h0;obtain⟨j,hj,hb⟩:=List.any_eq_true.1 h;rw[<-lj (H g)] at h0;rw[rW h0<|List.mem_range.1 hj] at hb;cases hb
def rI (g:XG) (w a:Nat):Bool:=sN g a && Jb g (gX g w) a
theorem Dj {w a:Nat} (z:a<H g):rI g w a=true↔∃b,b<H g/\gX g w b=true/\fU g b a=true:=by
 have u:∀b,fU g b a=(sN g a && (N (.ofNat a) (.ofNat b) || (N (dB g a).kind 4 && jk g b a))):=fun b=>by
  grind [fU]
 unfold rI Jb;rw[bA_,Bool.or_eq_true,bA_];constructor
 ·rintro ⟨h1,h | ⟨d,h3⟩⟩
  ·exact⟨a,z,h,by rw[u,h1,qT.2 Z];rfl⟩
  grind
 rintro ⟨b,hb,h1,d⟩;rw[u,bA_,Bool.or_eq_true,bA_] at d;refine⟨d.1,?_⟩;rcases d.2 with h | h
 ·obtain rfl:=qT.1 h;exact .inl h1
 grind
theorem NZ {w a:Nat} (h:bA (H g) (gX g w)=0) (d:a<H g):rI g w a=false:=by
 cases u:rI g w a with
 | false=>rfl
 | true=>
  obtain⟨b,hb,h1,_⟩:=(Dj d).1 u;rw[<-lj (H g)] at h;rw[rW h hb] at h1;cases h1
def IW (g:XG) (k:Nat):Rn:=fun r a=>(range k).any fun w=>js g w && (fZ g w r && rI g w a)
def Ax (g:XG) (k i:Nat):Rn:=fun r a=>IW g k r a || (decide (r<i) && (fZ g k r && rI g k a))
theorem z6 {k r a:Nat}:IW g (k+1) r a=(IW g k r a || (js g k && (fZ g k r && rI g k a))):=by
 unfold IW
 grind
theorem FG {k:Nat} (h:js g k=false):bp (H g) (IW g (k+1))=bp (H g) (IW g k):=cy fun r a _ _=>by rw[z6,h];simp
theorem NW {k:Nat} (h:bA (H g) (gX g k)=0):bp (H g) (IW g (k+1))=bp (H g) (IW g k):=cy fun r a _ d=>by rw[z6,NZ h d];simp
theorem NX {k:Nat}:bp (H g) (Ax g k 0)=bp (H g) (IW g k):=cy fun r a _ _=>by unfold Ax;simp
theorem Dh {k i:Nat} (h:fZ g k i=false):bp (H g) (Ax g k (i+1))=bp (H g) (Ax g k i):=cy fun r a _ _=>by
 unfold Ax
 grind
theorem IX {k i:Nat} (h:fZ g k i=true):(bp (H g)<|Ax g k i).set i (bA (H g) (Ax g k i i) ||| bA (H g) (rI g k))=bp (H g) (Ax g k (i+1)):=by
 rw[qI,mO];refine cy fun r a _ _=>?_
 by_cases hr:r=i
 ·subst hr;unfold Ax;simp[h]
 have:(r == i)=false:=by simpa using hr
 rw[this];unfold Ax
 grind
theorem QB {k:Nat} (h:js g k=true):bp (H g) (Ax g k<|H g)=bp (H g) (IW g (k+1)):=cy fun r a hr _=>by
 rw[z6,h];unfold Ax;simp[hr]
theorem QA:bp (H g) (IW g<|H g)=bp (H g) (sU g):=cy fun r a hr ha=>by
 rw[zd_,vx];unfold IW;rw[List.any_eq_true];constructor
 ·rintro ⟨w,hw,h⟩;rw[bA_,bA_] at h
  grind [Dj]
 grind [Dj]
end
section
variable {g:XG}
theorem tW {l:List α} (h:l.Nodup) {i:Nat} {a:α} (hi:l[i]? =some a) (hj:l[j]? =some a):i=j:=by
 rcases Nat.lt_trichotomy i j with hh | hh | hh
 ·exact absurd Z<|zt h hh hi hj
 ·exact hh
 exact absurd Z<|zt h hh hj hi
theorem wm (d:cG g) {r:List cD} (hr:g.order[ln]? =some r):r.Nodup:=by
 have hf:=rh (x:=ln) (loc:=0) hr (nA_ _);have hn:(jA g.order 0).Nodup:=d.perm.nodup_iff.1 qm
 grind [fu,p5]
theorem Bq (z:cG g) {b:Nat} {r:List cD} (hr:g.order[ln]? =some r) (hb:r[b]? =some id):∃n,n<H g/\(gj g)[n]? =some id/\eJ g n=id/\N id.br 0=false/\dR g n= .ofNat (b+1):=by
 obtain⟨t,k,row,e,rfl,C,h3,hw,hl⟩:=sl z hr (gB_ hb);have d:cX g ⟨.ofNat (t+1),.ofNat k⟩=some e:=by rw[fB,C];exact h3
 obtain⟨n,hn⟩:=gO_ (xJ d<|uI d);have u:n<H g:=(gA.1 hn).1;have w:eJ g n=⟨.ofNat (t+1),.ofNat k⟩:=zs_ ((eE u).symm.trans hn);have A:dB g n=e:=zs_ ((yD u).symm.trans (by rw[w];exact d));refine⟨n,u,hn,w,Z,?_⟩;unfold dR;rw[w,A,hl,show N (⟨.ofNat (t+1),.ofNat k⟩:cD).br 0=false from Z];have E:jI g (.ofNat ln)=r:=by unfold jI;simp_all
 rw[E]
 have:=se (p:=fun x:cD=>cL x.ints (⟨.ofNat (t+1),.ofNat k⟩:cD).ints) (l:=r) (i:=0) hb (iX.2 Z) fun q y hq B=>by
  cases G:cL y.ints (⟨.ofNat (t+1),.ofNat k⟩:cD).ints with
  | false=>rfl
  | true=>
   rw[iX.1 G] at B;have:=tW (wm z hr) B hb;omega
 rw[nA_] at this;show(bif cM (ey _ r 0) 0 then(-1:Int) else wr .i64 (Int.add (ey _ r 0) 1))=_;rw[this,show cM (.ofNat b) 0=false by rw[show(0:Int)= .ofNat 0 from Z,gP];simp];have hbl:=(gA.1 hb).1;have:=iq (cP.2 z) r (gB_ hr);exact aX oM
def vo (g:XG) (a b:Nat):List cD:=(g.order.take a).flatten++((g.order[a]?).getD []).take b
open Classical in
def ub (g:XG) (a b n:Nat):Int:=bif N (eJ g n).br 0 then 0 else if eJ g n∈vo g a b then dR g n else-1
def gQ (g:XG) (a b:Nat):List Int:=(range<|H g).map (ub g a b)
theorem qa {a b:Nat}:(gQ g a b).length=H g:=by unfold gQ;simp
theorem Bz {a b n:Nat} (h:n<H g):(gQ g a b)[n]? =some (ub g a b n):=by unfold gQ;simp[h]
theorem Hf (A:cG g) {a b n:Nat} {r:List cD} (hr:g.order[a]? =some r) (hb:r[b]? =some id) (hn:n<H g) (d:eJ g n=id):(gQ g a b).set n (.ofNat (b+1))=gQ g a (b+1):=by
 have hbl:=(gA.1 hb).1
 have B:vo g a (b+1)=vo g a b++[id]:=by
  grind [vo,zb_]
 obtain⟨n',u,_,w,ht,hp⟩:=Bq A hr hb;have z:n'=n:=sd (eE u) (by rw[eE hn,d,w]);subst z;refine zf_ fun k=>?_
 by_cases hk:k<H g
 ·rw[List.getElem?_set,Bz hk,Bz hk,qa]
  by_cases he:n'=k
  ·subst he;rw[if_pos Z,if_pos hk];unfold ub
   simp_all
  rw[if_neg he];unfold ub;rw[B];have aa:eJ g k≠id:=fun h=>he (sd (eE u) (by rw[eE hk,h,d]))
  grind
 grind [qa]
theorem Kn {a:Nat} {r:List cD} (hr:g.order[a]? =some r):vo g a r.length=vo g (a+1) 0:=by
 grind [vo,zb_]
theorem Fa {a:Nat} {r:List cD} (hr:g.order[a]? =some r):gQ g a r.length=gQ g (a+1) 0:=by
 unfold gQ ub;rw[Kn hr]
theorem He:gQ g 0 0=(range<|H g).map fun n=>bif N (eJ g n).br 0 then(0:Int) else-1:=by
 grind [gQ,List.map_congr_left,ub,vo]
theorem Hd (w:cG g) {a:Nat} (z:g.order.length<=a):gQ g a 0=(range<|H g).map (dR g):=by
 unfold gQ;refine List.map_congr_left fun n hn=>?_
 have hn:=List.mem_range.1 hn;unfold ub vo;rw[take_zero,zk_,tL_ z];rcases fp hn with ⟨x,v,h1,_⟩ | ⟨t,k,row,e,h1,A,h3,h4⟩
 ·unfold dR;rw[h1];rfl
 rw[show N (eJ g n).br 0=false by rw[h1];rfl,cond_false]
 by_cases hm:eJ g n∈g.order.flatten
 ·rw[if_pos hm]
 rw[if_neg hm];rcases og w hn with ⟨hw,_⟩ | ⟨_,hp⟩
 ·have d:bl e=true:=by rw[<-h4];exact hw
  have u:((⟨.ofNat (t+1),.ofNat k⟩:cD).ints,e.loc)∈fV g.threads 0:=jc.2 ⟨t,k,row,e,A,h3,d,by rw[nA_];rfl,Z⟩;obtain⟨ln,r,id,k1,k2,k3,k4⟩:=iN.1 (w.perm.mem_iff.1 u)
  grind [l5,List.mem_flatten]
 exact hp.symm
theorem LZ (hR:cG g) {n:Nat} (hn:n<H g) (hr:cC (dB g n)=true):∃f,f<H g/\eH g n= .ofNat f/\(gj g)[f]? =some (KO g<|eJ g n):=by
 grind [gL,eE]
theorem tO {n:Nat} (hr:cC (dB g n)=false):eH g n= -1:=by unfold eH;rw[hr];rfl
theorem El {n:Nat} (hn:n<H g) (h:N (eJ g n).br 0=true):cC (dB g n)=false:=by
 rcases fp hn with ⟨x,v,_,_,h3⟩ | ⟨t,k,_,_,h1,_⟩
 ·rw[h3];rfl
 rw[h1] at h;exact Bool.noConfusion (show false=true from h)
end
variable {fv iv pv:U}
structure mz (K:KP) (g:XG) (b:Nat) (iv ev fv pv:U):Prop where
 row:K b (.row [iv,ev,fv,pv] 351 false)
 ids:bS K 2 jm (gj g) iv
 ju:bS K 5 jl (An g) ev
 from_:bS K 1 g9 ((range<|H g).map<|eH g) fv
 place:bS K 1 g9 ((range<|H g).map<|dR g) pv
theorem mz.mono {K K':KP} {b:Nat} {iv ev fv pv:U} (h:mz K g b iv ev fv pv) (hk:KP.le K K'):mz K' g b iv ev fv pv:=⟨hk _ _ h.row,h.ids.mono hk fun _ _ h=>h,h.ju.mono hk fun _ _ h=>h,h.from_.mono hk fun _ _ h=>h,h.place.mono hk fun _ _ h=>h⟩
theorem rC {n i:Nat} {f:Nat->Int} (h:i<n):((range n).map f)[i]? =some (f i):=by simp[h]
theorem E4 (M:Plain G) {b:Nat} {Q ev R S:U} (dP:K b (.row [Q,ev,R,S] 351 false)) (d:bS K 5 jl (An g) ev) {i:Nat} (hi:i<H g) (O:F V K L):
  Ca G K L 324 [.ptr b 0,nI i] V <| .bool (cC<|dB g i):=by
 refine VV M Tryz.func324 Z<|Vp 8 Z<|I Z (bV Z) Z<|I Z (WR 1 Z) Z<|I Z (WS Z (O.bY dP) Z) Z<|vQ 1 Z<|WJ (e:=45) (m:=5) d (eY hi) Z Z Z Z (fun ao aa w ab z=>?_);obtain rfl:=z;refine bX w Z Z Z (k:=0) Y (lb Z) (fun _=>Z) (fun ap A=>?_);refine I Z (WV O A Z Z) Z<|vQ 1 Z<|ky Z (al Z) (fun u=>?_) (fun u=>?_)
 ·refine Vt 14 Z ?_;exact aB Z Z ⟨cB (by unfold cC;simp only[u,ct,cf]<;>rfl),O⟩
 refine vQ 1 Z<|I Z (bV Z) Z<|I Z (WR 1 Z) Z<|I Z (WS Z (O.bY dP) Z) Z<|vQ 1 Z<|WJ (e:=45) (m:=5) d (eY hi) Z Z Z Z (fun aq ac B am C=>?_);obtain rfl:=C;refine bX B Z Z Z (k:=0) Y (lb Z) (fun _=>Z) (fun ar E=>?_);refine I Z (WV O E Z Z) Z<|Vt 6 Z ?_;exact aB Z Z ⟨cB (by unfold cC;simp only[u,ct,cf]<;>rfl),O⟩
theorem PX (d:Plain G) {b:Nat} {ev:U} (hv:mz K g b iv ev fv pv) {i:Nat} (hi:i<H g) (O:F V K L):
  EC G 324 [.ptr b 0,nI i] V fun u V'=>u= .bool (cC<|dB g i)/\F V' K L:=E4 d hv.row hv.ju hi O
theorem Ni (E:Plain G) {b:Nat} {ev:U} (hv:mz K g b iv ev fv pv) {i:Nat} (hi:i<H g) (O:F V K L):
  Ca G K L 328 [.ptr b 0,nI i] V <| .bool (bl<|dB g i):=by
 refine VV E Tryz.func328 Z<|Vp 8 Z<|I Z (bV Z) Z<|I Z (WR 1 Z) Z<|I Z (WS Z (O.bY hv.row) Z) Z<|vQ 1 Z<|WJ (e:=45) (m:=5) hv.ju (eY hi) Z Z Z Z (fun ao aa u ab w=>?_);obtain rfl:=w;refine bX u Z Z Z (k:=0) Y (lb Z) (fun _=>Z) (fun ap z=>?_);refine I Z (WV O z Z Z) Z<|vQ 1 Z<|ky Z (al Z) (fun d=>?_) (fun d=>?_)
 ·refine Vt 14 Z ?_;exact aB Z Z ⟨cB (by unfold bl;simp only[d,ct,cf]<;>rfl),O⟩
 refine vQ 1 Z<|I Z (bV Z) Z<|I Z (WR 1 Z) Z<|I Z (WS Z (O.bY hv.row) Z) Z<|vQ 1 Z<|WJ (e:=45) (m:=5) hv.ju (eY hi) Z Z Z Z (fun aq ac A am B=>?_);obtain rfl:=B;refine bX A Z Z Z (k:=0) Y (lb Z) (fun _=>Z) (fun ar C=>?_);refine I Z (WV O C Z Z) Z<|Vt 6 Z ?_;exact aB Z Z ⟨cB (by unfold bl;simp only[d,ct,cf]<;>rfl),O⟩
theorem xP (z:Plain G) {b:Nat} {ev:U} (hv:mz K g b iv ev fv pv) {i:Nat} (hi:i<H g) (O:F V K L):
  Ca G K L 336 [.ptr b 0,nI i] V <| .bool (N (dB g i).kind 4):=by
 refine VV z Tryz.func336 Z<|Vp 8 Z<|I Z (bV Z) Z<|I Z (WR 1 Z) Z<|I Z (WS Z (O.bY hv.row) Z) Z<|vQ 1 Z<|WJ (e:=45) (m:=5) hv.ju (eY hi) Z Z Z Z (fun ac aa d ab u=>?_);obtain rfl:=u;refine bX d Z Z Z (k:=0) Y (lb Z) (fun _=>Z) (fun am w=>?_);refine I Z (WV O w Z Z) Z<|Vt 5 Z ?_;exact aB Z Z ⟨cB (Z),O⟩
theorem G5 (C:Plain G) {b:Nat} {ev:U} (hv:mz K g b iv ev fv pv) {i:Nat} (hi:i<H g) (O:F V K L):
  Ca G K L 333 [.ptr b 0,nI i] V <| .bool (sN g i):=by
 refine VV C Tryz.func333 Z<|UD 9 Z<|I Z (bV Z) Z<|I Z (WR 1 Z) Z<|I Z (WS Z (O.bY hv.row) Z) Z<|vQ 1 Z<|WJ (e:=45) (m:=5) hv.ju (eY hi) Z Z Z Z (fun ac aa z ab A=>?_);obtain rfl:=A;refine bX z Z Z Z (k:=2) Y (lb Z) (fun _=>Z) (fun am B=>?_);refine I Z (WV O B Z Z) Z<|UH 3 Z<|UD 3 Z<|ky Z (ay Z Z Z) (fun d=>?_) (fun d=>?_)
 ·refine UL 13 Z<|aK<|aA (?_);exact aB Z Z ⟨cB (by unfold sN;simp only[d,ct,cf]<;>rfl),O⟩
 refine UJ 6 Z<|ky Z (ay Z Z Z) (fun u=>?_) (fun u=>?_)
 ·refine UL 13 Z<|aK<|aA (?_);exact aB Z Z ⟨cB (by unfold sN;simp only[d,u,ct,cf]<;>rfl),O⟩
 refine Vs 5 Z<|ky Z (ay Z Z Z) (fun w=>?_) (fun w=>?_)
 ·refine Vt 10 Z<|aK<|aA (?_);exact aB Z Z ⟨cB (by unfold sN;simp only[d,u,w,ct,cf]<;>rfl),O⟩
 refine UK 6 Z<|V5 6 Z ?_;exact aB Z Z ⟨cB (by unfold sN;simp only[d,u,w,ct,cf]<;>rfl),O⟩
theorem G9 (C:Plain G) {b:Nat} {ev:U} (hv:mz K g b iv ev fv pv) {i:Nat} (hi:i<H g) (O:F V K L):
  Ca G K L 335 [.ptr b 0,nI i] V <| .bool (ru g i):=by
 refine VV C Tryz.func335 Z<|UD 9 Z<|I Z (bV Z) Z<|I Z (WR 1 Z) Z<|I Z (WS Z (O.bY hv.row) Z) Z<|vQ 1 Z<|WJ (e:=45) (m:=5) hv.ju (eY hi) Z Z Z Z (fun ac aa z ab A=>?_);obtain rfl:=A;refine bX z Z Z Z (k:=2) Y (lb Z) (fun _=>Z) (fun am B=>?_);refine I Z (WV O B Z Z) Z<|UH 3 Z<|UD 3 Z<|ky Z (ay Z Z Z) (fun d=>?_) (fun d=>?_)
 ·refine UL 13 Z<|aK<|aA (?_);exact aB Z Z ⟨cB (by unfold ru;simp only[d,ct,cf]<;>rfl),O⟩
 refine UJ 6 Z<|ky Z (ay Z Z Z) (fun u=>?_) (fun u=>?_)
 ·refine UL 13 Z<|aK<|aA (?_);exact aB Z Z ⟨cB (by unfold ru;simp only[d,u,ct,cf]<;>rfl),O⟩
 refine Vs 5 Z<|ky Z (ay Z Z Z) (fun w=>?_) (fun w=>?_)
 ·refine Vt 10 Z<|aK<|aA (?_);exact aB Z Z ⟨cB (by unfold ru;simp only[d,u,w,ct,cf]<;>rfl),O⟩
 refine UK 6 Z<|V5 6 Z ?_;exact aB Z Z ⟨cB (by unfold ru;simp only[d,u,w,ct,cf]<;>rfl),O⟩
theorem Na (M:Plain G) {b:Nat} {ev:U} (hv:mz K g b iv ev fv pv) {i:Nat} (hi:i<H g) (hq:q<H g) (O:F V K L):
  Ca G K L 326 [.ptr b 0,nI i,nI q] V <| .bool (tg g i q):=by
 refine VV M Tryz.func326 Z<|Vo 6 Z<|aP (l:=zp [0,1,2,3,4,5,6,7,8,9,10,11,12,13,14,15,16,17,18,19,20,21,22,23,24,25,26,27,28,29]) Y Y<|V8 2 Z<|di Z Z (WQ Z Z Z) (fun _=>Z) (xP M hv hi O) (fun V O=>?_);refine⟨aU,?_⟩;refine aj Z Z (df Z) Z<|fA Z Z (al Z) (fun _=>Z) (fun d=>?_) (fun d=>?_)
 ·refine V8 2 Z<|di Z Z (WQ Z Z Z) (fun _=>Z) (xP M hv hq O) (fun V O=>?_);refine⟨aU,?_⟩;refine aj Z Z (df Z) Z<|wQ 1 Z<|fA Z Z (al Z) (fun _=>Z) (fun u=>?_) (fun u=>?_)
  ·refine wQ 1 Z<|aj Z Z (bV Z) Z<|aj Z Z (WR 1 Z) Z<|aj Z Z (WS Z (O.bY hv.row) Z) Z<|wQ 1 Z<|WK (e:=45) (m:=5) hv.ju (eY hi) Z Z Z Z Z (fun ao aa w ab z=>?_);obtain rfl:=z;refine dU w Z Z Z Z (k:=1) Y (lb Z) (fun _=>Z) (fun ap A=>?_);refine aj Z Z (WV O A Z Z) Z<|wQ 1 Z<|aj Z Z (bV Z) Z<|aj Z Z (WR 1 Z) Z<|aj Z Z (WS Z (O.bY hv.row) Z) Z<|wQ 1 Z<|WK (e:=45) (m:=5) hv.ju (eY hq) Z Z Z Z Z (fun aq ac B am C=>?_);obtain rfl:=C;refine dU B Z Z Z Z (k:=1) Y (lb Z) (fun _=>Z) (fun ar E=>?_);refine aj Z Z (WV O E Z Z) Z<|Vv 6 Z ?_;exact aB Z Z ⟨cB (by unfold tg;rw[show N (dB g i).kind 4=false from de d,show N (dB g q).kind 4=false from de u];rfl),O⟩
  refine Vv 22 Z ?_;exact aB Z Z ⟨cB (by unfold tg;rw[show N (dB g i).kind 4=false from de d,show N (dB g q).kind 4=true from bT u];rfl),O⟩
 refine Vv 28 Z ?_;exact aB Z Z ⟨cB (by unfold tg;rw[show N (dB g i).kind 4=true from bT d];rfl),O⟩
theorem Sp (E:Plain G) {b:Nat} {ev:U} (hv:mz K g b iv ev fv pv) {i:Nat} (hi:i<H g) (hq:q<H g) (O:F V K L):
  Ca G K L 258 [.ptr b 0,nI i,nI q] V <| .bool (jk g i q):=by
 refine VV E Tryz.func258 Z (Vo 6 Z (aP (l:=[(0,[]),(1,[]),(2,[]),(3,[]),(4,[]),(5,[]),(6,[]),(7,[]),(8,[]),(9,[]),(10,[]),(11,[]),(12,[]),(13,[]),(14,[]),(15,[]),(16,[10,13]),(17,[])]) Y Y<|wQ 1 Z<|aj Z Z (bV Z) Z<|aj Z Z (WR 0 Z) Z<|aj Z Z (WS Z (O.bY hv.row) Z) Z<|wQ 1 Z<|WK (e:=68) (m:=2) hv.ids (eE hi) Z Z Z Z Z (fun ao aa A ab B=>?_)));obtain rfl:=B;refine aj Z Z (WW O A Z Z) Z<|wQ 1 Z<|aj Z Z (bV Z) Z<|aj Z Z (WR 0 Z) Z<|aj Z Z (WS Z (O.bY hv.row) Z) Z<|wQ 1 Z<|WK (e:=68) (m:=2) hv.ids (eE hq) Z Z Z Z Z (fun ap ac w am C=>?_);obtain rfl:=C;refine aj Z Z (WW O w Z Z) Z<|mq O Z Z (WU (cs:=[J,J])) (fun _=>Z) (fun V b1 O=>?_);refine mq O Z Z (WU (cs:=[J,J])) (fun _=>Z) (fun V b2 O=>?_);refine kK O Z Z (WX Z Z Z O.g1 Z) Z (fun V O=>?_);refine⟨(bf (bo Z Z Z Z Z (WS Z (O.bY hv.row) Z) hv.ids.eM)<|bf (bo Z Z Z Z Z (WW O w Z Z)<|dI<|ba (cV _ _)<|ba (cV _ _) dJ) aU),?_⟩;refine gD O Z Z (WX Z Z Z O.g0 Z) Z (fun V O=>?_);refine⟨aU,?_⟩;refine UN 4 Z<|Wa O 3 [0,0] Z Z<|ky Z (al Z) (fun d=>?_) (fun d=>?_)
 ·refine Wa O 3 [0,1] Z Z<|ky Z (al Z) (fun u=>?_) (fun u=>?_)
  ·refine Vt 18 Z ?_;exact aB Z Z ⟨cB (by rw[<-UC hi hq,show N (eJ g q).br 0=false from de d,show N (eJ g i).br 0=true from u];rfl),O.pop.pop⟩
  refine Wa O 5 [0,1,0,0] Z Z<|ky Z (al Z) (fun z=>?_) (fun z=>?_)
  ·refine Vy O 12 [1,1,1,0] Z Z ?_;exact aB Z Z ⟨cB (by rw[<-UC hi hq,show N (eJ g q).br 0=false from de d,show N (eJ g i).br 0=false from u,show N (eJ g i).br (eJ g q).br=true from z];rfl),O.pop.pop⟩
  refine Vt 12 Z ?_;exact aB Z Z ⟨cB (by rw[<-UC hi hq,show N (eJ g q).br 0=false from de d,show N (eJ g i).br 0=false from u,show N (eJ g i).br (eJ g q).br=false from z];rfl),O.pop.pop⟩
 refine Vt 22 Z ?_;exact aB Z Z ⟨cB (by rw[<-UC hi hq,show N (eJ g q).br 0=true from bT d];rfl),O.pop.pop⟩
theorem Vm (w:Plain G) {b:Nat} {ev:U} (hv:mz K g b iv ev fv pv) {i:Nat} (hi:i<H g) (hq:q<H g) (O:F V K L):
  Ca G K L 259 [.ptr b 0,nI i,nI q] V <| .bool (qz g i q):=by
 refine VV w Tryz.func259 Z<|Vp 8 Z<|I Z (bV Z) Z<|I Z (WR 2 Z) Z<|I Z (WS Z (O.bY hv.row) Z) Z<|vQ 1 Z<|WJ (e:=3) (m:=1) hv.from_ (rC hq) Z Z Z Z (fun ac aa d ab u=>?_);obtain rfl:=u;refine I Z (WV O d Z Z) Z<|Vt 6 Z ?_;exact aB Z Z ⟨cB (Z),O⟩
theorem TN (Q:Plain G) {b:Nat} {ev:U} (hv:mz K g b iv ev fv pv) (M:cG g) {i:Nat} (hi:i<H g) (hq:q<H g) (O:F V K L):
  Ca G K L 260 [.ptr b 0,nI i,nI q] V <| .bool (nE g i q):=by
 refine VV Q Tryz.func260 Z<|Vo 6 Z<|aP (l:=zp [0,1,2,3,4,5,6,7,8,9,10,11,12,13,14,15,16,17,18,19,20,21,22,23,24,25,26,27,28,29,30,31]) Y Y<|wQ 1 Z<|aj Z Z (bV Z) Z<|aj Z Z (WR 3 Z) Z<|aj Z Z (WS Z (O.bY hv.row) Z) Z<|wQ 1 Z<|WK (e:=3) (m:=1) hv.place (rC hi) Z Z Z Z Z (fun aq aa w ab z=>?_);obtain rfl:=z;refine aj Z Z (WV O w Z Z) Z<|wQ 1 Z<|fA Z Z (al Z) (fun _=>Z) (fun d=>?_) (fun d=>?_)
 ·refine V8 3 Z<|di Z Z (WQ Z Z Z) (fun _=>Z) (Na Q hv hi hq O) (fun V O=>?_);refine⟨aU,?_⟩;refine wQ 1 Z<|fA Z Z (al Z) (fun _=>Z) (fun u=>?_) (fun u=>?_)
  ·refine wQ 1 Z<|aj Z Z (bV Z) Z<|aj Z Z (WR 3 Z) Z<|aj Z Z (WS Z (O.bY hv.row) Z) Z<|wQ 1 Z<|WK (e:=3) (m:=1) hv.place (rC hi) Z Z Z Z Z (fun ar ac A am B=>?_);obtain rfl:=B;refine aj Z Z (WV O A Z Z) Z<|wQ 1 Z<|aj Z Z (bV Z) Z<|aj Z Z (WR 3 Z) Z<|aj Z Z (WS Z (O.bY hv.row) Z) Z<|wQ 1 Z<|WK (e:=3) (m:=1) hv.place (rC hq) Z Z Z Z Z (fun a0 ao C ap E=>?_);obtain rfl:=E;refine aj Z Z (WV O C Z Z) Z<|Vv 6 Z ?_;exact aB Z Z ⟨cB (by rw[<-U5 M hi hq,show cM (dR g i) 0=false from de d,show tg g i q=true from u];rfl),O⟩
  refine Vv 20 Z ?_;exact aB Z Z ⟨cB (by rw[<-U5 M hi hq,show cM (dR g i) 0=false from de d,show tg g i q=false from u];rfl),O⟩
 refine Vv 26 Z ?_;exact aB Z Z ⟨cB (by rw[<-U5 M hi hq,show cM (dR g i) 0=true from bT d];rfl),O⟩
theorem Vl (R:Plain G) {b:Nat} {ev:U} (hv:mz K g b iv ev fv pv) (w:cG g) {i:Nat} (hi:i<H g) (hq:q<H g) (O:F V K L):
  Ca G K L 261 [.ptr b 0,nI i,nI q] V <| .bool (pW g i q):=by
 refine VV R Tryz.func261 Z<|Vp 10 Z<|ky Z (al Z) (fun u=>?_) (fun u=>?_)
 ·refine vQ 1 Z<|I Z (bV Z) Z<|I Z (WR 2 Z) Z<|I Z (WS Z (O.bY hv.row) Z) Z<|vQ 1 Z<|WJ (e:=3) (m:=1) hv.from_ (rC hi) Z Z Z Z (fun ao aa z ab A=>?_);obtain rfl:=A;refine I Z (WV O z Z Z) Z<|V7 2 Z<|ky Z (al Z) (fun d=>?_) (fun d=>?_)
  ·refine V7 2 Z<|I Z (bV Z) Z<|I Z (WR 2 Z) Z<|I Z (WS Z (O.bY hv.row) Z) Z<|vQ 1 Z<|WJ (e:=3) (m:=1) hv.from_ (rC hi) Z Z Z Z (fun ap ac B am C=>?_);obtain rfl:=C;refine I Z (WV O B Z Z) Z<|vQ 1 Z ?_
   obtain⟨f,Q,E⟩:∃f,f<H g/\eH g i= .ofNat f:=by
    cases M:cC (dB g i) with
    | true=>obtain⟨f,h1,S,_⟩:=gL w hi M;exact⟨f,h1,S⟩
    | false=>rw[tO M] at d;exact Bool.noConfusion (show false=true from d)
   refine kx (WQ Z Z Z) (by rw[E];exact TN R hv w Q hq O) (fun V O=>?_);refine Vt 5 Z ?_;exact aB Z Z ⟨cB (by rw[<-Vd w hi hq,show N (.ofNat i) (.ofNat q)=false from de u,show cM (eH g i) 0=false from de d,E];rfl),O⟩
  refine Vt 15 Z ?_;exact aB Z Z ⟨cB (by rw[<-Vd w hi hq,show N (.ofNat i) (.ofNat q)=false from de u,show cM (eH g i) 0=true from bT d];rfl),O⟩
 refine Vt 25 Z ?_;exact aB Z Z ⟨cB (by rw[<-Vd w hi hq,show N (.ofNat i) (.ofNat q)=true from bT u];rfl),O⟩
theorem TO (u:Plain G) {b:Nat} {ev:U} (hv:mz K g b iv ev fv pv) {i:Nat} (hi:i<H g) (hq:q<H g) (O:F V K L):
  Ca G K L 263 [.ptr b 0,nI i,nI q] V <| .bool (tT g i q):=by
 refine VV u Tryz.func263 Z<|Vp 10 Z<|ky Z (al Z) (fun d=>?_) (fun d=>?_)
 ·refine V7 3 Z<|kx (WQ Z Z Z) (Na u hv hi hq O) (fun V O=>?_);refine Vt 5 Z ?_;exact aB Z Z ⟨cB (by rw[<-TD,show N (.ofNat i) (.ofNat q)=false from de d];rfl),O⟩
 refine Vt 9 Z ?_;exact aB Z Z ⟨cB (by rw[<-TD,show N (.ofNat i) (.ofNat q)=true from bT d];rfl),O⟩
variable {A:Rn} {va:U}
theorem xp {P:q6} {k:Bool} {ty:y_} {x:Nat} (h:j<64):qx P k .shr ty (.int .u64 (.ofNat x)) (.int kk (.ofNat j))=some (.int .u64 (.ofNat (x/2 ^ j))):=by
 have e1:min (toNat (.ofNat j)) 64=j:=by show min j 64=j;omega
 have:fdiv (.ofNat x) (2 ^ min (toNat (.ofNat j)) 64)= .ofNat (x/2 ^ j):=by
  rw[e1,xR];show fdiv ((x:Nat):Int) ((2 ^ j:Nat):Int)=_;rw[Int.fdiv_eq_ediv_of_nonneg _<|Int.natCast_nonneg _];rfl
 cases k<;>exact congrArg (fun z=>some (U.int .u64 z)) this
theorem RF {x:Nat}:(bif N (.ofNat (x/2 ^ j &&& 1)) 0 then false else true)=x.testBit j:=by
 show(bif N (.ofNat (x/2 ^ j &&& 1)) (.ofNat 0) then false else true)=(1 &&& (x >>> j) !=0);rw[dY,Nat.shiftRight_eq_div_pow,Nat.and_comm 1];cases h:decide (x/2 ^ j &&& 1=0) with
 | true=>rw[of_decide_eq_true h];rfl
 | false=>
  have h1:=of_decide_eq_false h;rw[Nat.and_one_is_mod] at h1⊢;have d:x/2 ^ j%2=1:=by omega
  rw[d];rfl
theorem FN {P:q6} {k:Bool} {ty:y_} {x:Nat}:qx P k .neq ty (.int .u64 (.ofNat (x/2 ^ j &&& 1))) (.int .u64 0)=some (.bool<|x.testBit j):=by
 rw[<-RF];cases k<;>rfl
theorem ig {n i:Nat} (h:i<n):(bA n p).testBit i=p i:=by rw[dz,decide_eq_true h,zp_]
theorem QO {n k i:Nat} {R:Rn} (h:iF R k i i k=true):(bp n<|iF R k i).set i (bA n (iF R k i i) ||| bA n (iF R k i k))=bp n (iF R k (i+1)):=by
 rw[qI,mO];refine cy fun a b _ _=>?_
 rw[BX]
 by_cases e:a=i
 ·subst e;rw[beq_self_eq_true,decide_eq_true Z,h];simp
 rw[decide_eq_false e,show(a == i)=false by simpa using e];rfl
theorem SZ {n k i:Nat} {R:Rn} (h:iF R k i i k=false):bp n (iF R k i)=bp n (iF R k (i+1)):=by
 refine cy fun a b _ _=>?_
 rw[BX]
 by_cases e:a=i
 ·subst e;rw[decide_eq_true Z,h];simp
 rw[decide_eq_false e];rfl
section
variable {P:q6} {G:Cx} {K:KP} {L:Own} {n:Nat} {t:PT U} {V:aF} {ops:Array z_} {o:z_} {Q:Ex->PT U->aF->Prop}
theorem QW {ds:q_} {ty b:Nat} {c:ou} {v:U} {m:Nat} {news:List U} (z:cl.callee= .builtin .copy) (A:cl.args.toList= [ds,so]) (B:cl.argTypes[0]? =some ty) (hu:P.underlying ty=some (.slice e)) (hj:(P.info? e).map (·.size)=some 1)
  (C:bz G t ds=some (.slice b 0 0 c)) (E:bz G t so=some v) (d:kO V 1 v=some (m,news)):dX P G (bz G t) V (.call cl)= .val (J) V:=by
 refine jD (by simp[kindOf,z]) ?_;obtain⟨j,u,w⟩:=oM_.1 hj
 have he:ju (bz G t) [ds,so]=some [.slice b 0 0 c,v]:=by
  unfold ju dv;simp only[C,E]
 simp only[gh,z,A,he,wO,B,hu,u,w,d,Nat.min_zero,show Nat.beq 0 0=true from Z,ct]
theorem PB {lo:List z_} {x:Nat×cU} {ds:q_} {ty b e':Nat} {c:ou} {v:U} {cells:List U} {l:List Nat} {t':U->PT U} (u:F V K (x::(b,.row cells e' false)::L)) (h:bS K 1 RU l v) (hlen:cells.length=l.length) (hw:bK ops t o=some true) (A:o.op= .call cl) (B:cl.callee= .builtin .copy) (C:cl.args.toList= [ds,so])
  (E:cl.argTypes[0]? =some ty) (M:bz G t ds=some (.slice b 0 l.length c)) (d:bz G t so=some v) (hp:∀v,dG t n o.dst v=some (t' v)) (hh:∀V',F V' K (x::(b,.row (l.map gU) e' false)::L)->bP P G ops n lo (t'<|nI l.length) V' Q)
  (hu:P.underlying ty=some (.slice e)) (hj:(P.info? e).map (·.size)=some 1):bP P G ops n (o::lo) t V Q:=by
 obtain⟨news,h1,S,h3,h4⟩:=pC u h (fun x vs hr=>by obtain rfl:=hr;rfl)
 have hn:news=l.map gU:=by
  refine zf_ fun i=>?_
  by_cases hi:i<l.length
  ·have h5:=h4 i l[i] (gC hi);have R:((news.drop (i*1)).take 1)= [gU l[i]]:=h5;rw[mul_one] at R;have h7:=congrArg (fun z=>z[0]?) R;simp only[List.getElem?_take,List.getElem?_drop] at h7;simp at h7;rw[gM_,gC hi];simpa using h7
  rw[gN_ (by rw[S];omega),gN_ (by rw[lM_];omega)]
 subst hn;rcases Nat.eq_zero_or_pos l.length with h0 | h0
 ·have hl:l= []:=List.length_eq_zero_iff.1 h0;subst hl;have w:cells= []:=List.length_eq_zero_iff.1 hlen;subst w;exact I hw (by rw[A];exact QW B C E hu hj M d h1) (hp _)<|hh _ u
 exact I hw (by rw[A];exact Ac (cells':=l.map gU) B C E hu hj M d h1 (Nat.min_self _) h0 (u.get 1 Z) (by rw[tL_ (by rw[lM_];omega)];exact h3) (nR_ _) (by rw[tL_ (by rw[lM_];omega),lM_];omega) (by
  rw[tL_ (by rw[lM_];omega),lF _ _ _ (by rw[lM_];omega),take_zero,List.nil_append,List.drop_eq_nil_of_le (by rw[lM_];omega),zk_])) (hp _) (hh _<|u.Td (.there .here))
end
theorem Vk (hG:Plain G) {n:Nat} (hn:n<64) {l:List (Nat×Nat)} {v:U} (T:bS K 2 RP l v) (W:∀p∈l,p.1<n/\p.2<n) (O:F V K L):
  EC G 325 [nI n,v] V fun u V'=>∃b,u= .agg [nI n,.slice b 0 n (.known n)]/\F V' K ((b,.row ((bp n<|xy l).map gU) 233 false)::L):=by
 refine VV hG Tryz.func325 Z<|Vp 2 Z<|kb O (WU (cs:=[J,.ax])) (fun V b1 O=>?_);refine UJ 5 Z<|kw (WQ Z Z Z) (G4 hG hn O) ?_;rintro _ V ⟨X,rfl,O⟩;refine kb O (WU (cs:=[J,.ax])) (fun V b3 O=>?_);refine ks O (WX Z Z Z O.g0 Z) (fun V O=>?_);refine TY 6 Z<|I Z (WT T Z Z Z (e:=252) Z) Z ?_;rw[show bp n (fun _ _=>false)=bp n (xy<|l.take 0) from cy fun a b _ _=>by unfold xy;simp] at O;refine UH 4 Z (bk ([7]++rg 12 39) (fun j t V=>∃(k:Nat),j+k=l.length/\t.get 12=some (nI k)/\F V K ((b3,.row [nI n,.slice X 0 n (.known n)] 173 false)::(X,.row ((bp n<|xy<|l.take k).map gU) 233 false)::(b1,.row [J,.ax] 173 false)::L)) (l.length) ⟨0,Z,Z,O⟩ ?_);clear O;intro j3 t V ar hI;obtain⟨k,ao,A,O⟩:=hI;obtain⟨oo,rfl⟩:=ar.q1 A Z;refine Vo 6 Z<|aG Z (fun d=>?_) (fun d=>?_)
 ·refine Ta 6 Z ?_;obtain⟨⟨pa,pb⟩,z,ap⟩:=dH d;obtain⟨w,aa⟩:pa<n/\pb<n:=W _ (gB_ z);refine WJ (e:=252) (m:=2) T z Z Z Z Z (fun aq ac B am C=>?_);obtain rfl:=C;refine I Z (WW O B Z Z) Z<|kb O (WU (cs:=[J,J])) (fun V b4 O=>?_);refine ks O (WX Z Z Z O.g0 Z) (fun V O=>?_);refine UJ 4 Z<|I Z (eX (e:=3) (m:=1) (n:=2) (j:=0) Y Y Z Z (by decide)) Z<|Wa O 2 [0] Z Z<|ky Z (al Z) (fun E=>?_) (fun E=>?_)
  ·refine I Z (eX (e:=3) (m:=1) (n:=2) (j:=0) Y Y Z Z (by decide)) Z<|Wa O 5 [0,0,1] Z Z<|ky Z (al Z) (fun M=>?_) (fun M=>?_)
   ·refine I Z (eX (e:=3) (m:=1) (n:=2) (j:=1) Y Y Z Z (by decide)) Z<|Wa O 3 [0] Z Z<|ky Z (al Z) (fun R=>?_) (fun R=>?_)
    ·refine I Z (eX (e:=3) (m:=1) (n:=2) (j:=1) Y Y Z Z (by decide)) Z<|Vx O 7 [0,0,1] Z Z<|aG Z (fun S=>?_) (fun S=>?_)
     ·refine aP (l:=zp [0,1,2,3,4,5,6,7,8,9,10,11,12]) Y Y (Wb O 2 [1,1] Z Z (aj Z Z (eX (e:=3) (m:=1) (n:=2) (j:=0) Y Y Z Z (by decide)) Z (aj Z Z (WS Z O.g0 Z) Z (aj Z Z (eF (e:=233) (m:=1) Y Y Z Z w) Z (aj Z Z (av Z (O.get 2 Z) Y<|gw (dn w) (by first | omega | rfl)) Z (aj Z Z (eX (e:=3) (m:=1) (n:=2) (j:=1) Y Y Z Z (by decide)) Z (aj Z Z (WS Z O.g0 Z) Z (aj Z Z (fJ (j:=pb) oM Y Y Y Z) Z (aj Z Z (ay (v:=.int .u64 (.ofNat (2 ^ pb))) Z Z<|xn oM) Z (aj Z Z (ay (v:=.int .u64 (.ofNat<|bA n (xy (l.take k) pa) ||| 2 ^ pb)) Z Z<|xA (cZ oM _)<|Nat.pow_lt_pow_right oM oM) Z<|aj Z Z (eF (e:=233) (m:=1) Y Y Z Z w) Z ?_))))))))));refine gn O (.there (.there .here)) Z Z (aI Z Z Z (O.get 2 Z) (m:=1) Y Z (by rw[lM_];rw[bM];omega) Z (cells':=((bp n<|xy<|l.take k).set pa<|bA n (xy (l.take k) pa) ||| 2 ^ pb).map (gU)) (dL (f:=gU) (v:=(bA n (xy (l.take k) pa) ||| 2 ^ pb)) (by rw[bM];exact w) (by first | omega | rfl))) Z (fun V O=>?_);refine⟨aU,?_⟩;rw[Ij z aa] at O;refine aW<|aD<|V0 4 Z ?_;have O:=O.pop;have hlp:=bd d;refine aJ ⟨j3-1,by omega,oF,k+1,by omega,cI<|aX (by have:=T.cE;omega),O⟩
     exact absurd (bJ S) oM
    exact Bool.noConfusion (show true=false from R)
   exact absurd (bJ M) oM
  exact Bool.noConfusion (show true=false from E)
 refine UG 3 Z<|aR<|Vp 2 Z<|I Z (W0 Z O.g0 Z) Z<|hJ O Z (WX Z Z Z (O.get 2 Z) Z) Z (fun V O=>?_);refine Vt 3 Z ?_;have ab:l.take k=l:=tL_ (bJ d);rw[ab] at O;exact cA Z Z (O.get 2 Z) (m:=2) Y Z ⟨X,Z,O.sub (.cons _ (.cons_cons _ (.cons _ (.refl _))))⟩
theorem MZ (d:Plain G) {n:Nat} (hn:n<64) (w:bS K 1 RU (bp n A) va) (O:F V K L):
  EC G 327 [.agg [nI n,va]] V fun u V'=>∃b,u= .agg [nI n,.slice b 0 n (.known n)]/\F V' K ((b,.row ((bp n A).map gU) 233 false)::L):=by
 refine VV d Tryz.func327 Z<|Vp 2 Z<|kb O (cd Z Z) (fun V b1 O=>?_);refine kb O (WU (cs:=[J,.ax])) (fun V b2 O=>?_);refine UQ O 6 [0,1] Z Z<|kw (WQ Z Z Z) (G4 d hn O) ?_;rintro _ V ⟨z,rfl,O⟩;refine kb O (WU (cs:=[J,.ax])) (fun V b4 O=>?_);refine ks O (WX Z Z Z O.g0 Z) (fun V O=>?_);refine UQ O 8 [1,0,1,3] Z Z<|PB (e:=233) O w (by rw[lM_,bM,bM]) Z Z Z Z Z (by rw[bM];rfl) Z (fun _=>Z) (fun V O=>?_) Y Y;refine UJ 4 Z<|I Z (W0 Z O.g0 Z) Z<|hJ O Z (WX Z Z Z (O.get 2 Z) Z) Z (fun V O=>?_);refine Vt 3 Z ?_;exact cA Z Z (O.get 2 Z) (m:=2) Y Z ⟨z,Z,O.sub (.cons _ (.cons_cons _ (.cons _ (.cons _ (.refl _)))))⟩
theorem CU (R:Plain G) {n:Nat} (hn:n<64) (X:bS K 1 RU (bp n A) va) (O:F V K L):
  EC G 262 [.agg [nI n,va]] V fun u V'=>∃b,u= .agg [nI n,.slice b 0 n (.known n)]/\F V' K ((b,.row ((bp n<|kW n A).map gU) 233 false)::L):=by
 refine VV R Tryz.func262 Z<|Vp 2 Z<|kb O (cd Z Z) (fun V b1 O=>?_);refine kb O (WU (cs:=[J,.ax])) (fun V b2 O=>?_);refine TY 5 Z<|I Z (W0 Z O.g1 Z) Z<|kx (WQ Z Z Z) (Ip R hn X O) (fun V O=>?_);refine Vr 3 Z<|aG Z (fun h8=>?_) (fun h8=>?_)
 ·exact absurd h8 (by decide)
 refine UF 4 Z<|I Z (W0 Z O.g1 Z) Z<|kw (WQ Z Z Z) (MZ R hn X O) ?_;rintro _ V ⟨C,rfl,O⟩;refine kb O (WU (cs:=[J,.ax])) (fun V b4 O=>?_);refine ks O (WX Z Z Z O.g0 Z) (fun V O=>?_);refine Ua O 7 [1,0] Z Z (I Z (oq Z Z Z (e:=233) Y Z) Z (UH 4 Z (bk ([4,5]++rg 15 33) (fun j t V=>∃(k:Nat),j+k=n/\t.get 15=some (nI k)/\F V K ((b4,.row [nI n,.slice C 0 n (.known n)] 173 false)::(C,.row ((bp n<|lG A k).map gU) 233 false)::(b2,.row [J,.ax] 173 false)::(b1,.row [nI n,va] 173 false)::L)) (n) ⟨0,Z,Z,O⟩ ?_)));clear O;intro j5 t V ar S;obtain⟨k,aa,E,O⟩:=S;obtain⟨oo,rfl⟩:=ar.q1 E Z;refine Vo 6 Z<|aG Z (fun z=>?_) (fun z=>?_)
 ·refine Ta 12 Z<|Wa O 2 [1,0] Z Z<|I Z (oq Z Z Z (e:=233) Y Z) Z ?_;rw[<-KG] at O;refine UH 4 Z (bk ([5]++rg 21 26) (fun j t V=>∃(i:Nat),j+i=n/\t.get 21=some (nI i)/\F V K ((b4,.row [nI n,.slice C 0 n (.known n)] 173 false)::(C,.row ((bp n<|iF A k i).map gU) 233 false)::(b2,.row [J,.ax] 173 false)::(b1,.row [nI n,va] 173 false)::L)) (n) ⟨0,Z,Z,O⟩ ?_);clear O;intro j8 t V ar S;obtain⟨i,ab,M,O⟩:=S;obtain⟨oo,rfl⟩:=ar.q1 M Z;refine Vo 6 Z<|aG Z (fun d=>?_) (fun d=>?_)
  ·refine Ta 12 Z ?_;have hkn:=bd z;have hin:=bd d;refine Wa O 3 [1,0] Z Z (I Z (eF (e:=233) (m:=1) Y Y Z Z hin) Z (I Z (av Z O.g1 Y<|gw (dn hin) (by first | omega | rfl)) Z (vQ 1 Z (I Z (fJ (j:=k) oM Y Y Y Z) Z (I Z (ay (v:=.int .u64 (.ofNat (bA n (iF A k i i)/2 ^ k))) Z Z<|xp oM) Z (I Z (ay (v:=.int .u64 (.ofNat (bA n (iF A k i i)/2 ^ k &&& 1))) Z Z<|tq (lt_of_le_of_lt (div_le_self _ _)<|cZ oM _) (by decide)) Z (I Z (ay (v:=.bool ((bA n<|iF A k i i).testBit k)) Z Z (FN)) Z<|Vr 2 Z<|aG Z (fun B=>?_) (fun B=>?_))))))))
   ·have w:iF A k i i k=true:=(ig (p:=iF A k i i) hkn).symm.trans B;refine aP (l:=zp [0,1,2,3,4,5,6,7,8,9,10,11,12]) Y Y (Wb O 3 [1,0] Z Z (aj Z Z (eF (e:=233) (m:=1) Y Y Z Z hin) Z (aj Z Z (av Z O.g1 Y<|gw (dn hin) (by first | omega | rfl)) Z (Wb O 3 [1,0] Z Z (aj Z Z (eF (e:=233) (m:=1) Y Y Z Z hkn) Z (aj Z Z (av Z O.g1 Y<|gw (dn hkn) (by first | omega | rfl)) Z (aj Z Z (ay (v:=.int .u64 (.ofNat<|bA n (iF A k i i) ||| bA n (iF A k i k))) Z Z<|xA (cZ oM _)<|cZ oM _) Z<|aj Z Z (eF (e:=233) (m:=1) Y Y Z Z hin) Z ?_)))))));refine gn O (.there .here) Z Z (aI Z Z Z O.g1 (m:=1) Y Z (by rw[lM_];rw[bM];omega) Z (cells':=((bp n<|iF A k i).set i<|bA n (iF A k i i) ||| bA n (iF A k i k)).map (gU)) (dL (f:=gU) (v:=(bA n (iF A k i i) ||| bA n (iF A k i k))) (by rw[bM];exact hin) (by first | omega | rfl))) Z (fun V O=>?_);refine⟨aU,?_⟩;rw[QO w] at O;refine aW<|aD<|V0 4 Z ?_;have hlp:=bd d;refine aJ ⟨j8-1,by omega,oF,i+1,by omega,cI<|aX oM,O⟩
   have w:iF A k i i k=false:=(ig (p:=iF A k i i) hkn).symm.trans B;refine aH<|aD<|V0 4 Z ?_;have hlp:=bd d;rw[SZ w] at O;refine aJ ⟨j8-1,by omega,oF,i+1,by omega,cI<|aX oM,O⟩
  refine UG 3 Z<|aR<|aD<|V0 4 Z ?_;have hlp:=bd z;have T:i=n:=by have:=bJ d;omega
  subst T;rw[Oi] at O;refine aJ ⟨j5-1,by omega,oF,k+1,by omega,cI<|aX oM,O⟩
 refine UG 3 Z<|aR<|Vp 2 Z<|I Z (W0 Z O.g0 Z) Z<|hJ O Z (WX Z Z Z (O.get 2 Z) Z) Z (fun V O=>?_);refine Vt 3 Z ?_;have W:k=n:=by have:=bJ z;omega
 subst W;rw[Oj] at O;exact cA Z Z (O.get 2 Z) (m:=2) Y Z ⟨C,Z,O.sub (.cons _ (.cons_cons _ (.cons _ (.cons _ (.refl _)))))⟩
variable {rest:List cz}
theorem cO {P:α->Prop} {a b:α} (c:Bool) (h1:P a) (h0:P b):P (bif c then a else b):=by grind
theorem fD {P:α->Prop} {a b:α} (c:Bool) (h1:c=true->P a) (h0:c=false->P b):P (bif c then a else b):=by grind
theorem jN (a b:List cz):du (a++b)=du a++du b:=by unfold du;simp_all
theorem BG {e:cz} (h:cC e=false):du [e]= []:=by unfold du;simp_all
theorem zR {e:cz} (h:cC e=true):du [e]= [e.read]:=by unfold du;simp_all
theorem Fc {l:List cz} (h:du l= []):∀e∈l,cC e=false:=by
 intro e he;cases hr:cC e with
 | false=>rfl
 | true=>
  have:e.read∈du l:=List.mem_map_of_mem (List.mem_filter.2 ⟨he,hr⟩)
  simp_all
def Grown (s s':TS):Prop:=(∃ext,s'.events=s.events++ext/\du ext= [])/\s'.asked=s.asked
theorem Grown.refl (s:TS):Grown s s:=⟨⟨[],by simp,Z⟩,Z⟩
theorem Grown.trans {s s' s'':TS} (h:Grown s s') (h':Grown s' s''):Grown s s'':=by
 obtain⟨⟨x,h1,d⟩,h3⟩:=h;obtain⟨⟨y,k1,k2⟩,u⟩:=h';exact⟨⟨x++y,by simp_all,by rw[jN,d,k2];rfl⟩,by rw[u,h3]⟩
theorem FE (k:Nat) (x:XI) (s:TS):Grown s (gR k x s).1:=by
 obtain⟨P,u⟩:∃P:TS×Bool->Prop,P=fun r=>Grown s r.1:=⟨_,Z⟩
 have h0:∀(r:TS×Bool),r.1.events=s.events->r.1.asked=s.asked->P r:=fun r h1 d=>by rw[u];exact⟨⟨[],by rw[h1];simp,Z⟩,d⟩
 have hw:∀(r:TS×Bool) (e:cz),cC e=false->r.1.events=s.events++[e]->r.1.asked=s.asked->P r:=fun r e h1 d h3=>by rw[u];exact⟨⟨[e],d,BG h1⟩,h3⟩
 have:P (gR k x s):=by
  unfold gR;refine cO _ (h0 _ Z Z)<|cO _ (hw _ _ Z Z Z)<|cO _ (hw _ _ Z Z Z)<|cO _ (cO _ (h0 _ Z Z)<|h0 _ Z Z)<|cO _ (cO _ (h0 _ Z Z)<|h0 _ Z Z)<|cO _ (h0 _ Z Z)<|cO _ (cO _ (h0 _ Z Z)<|h0 _ Z Z)<|cO _ (h0 _ Z Z)<|cO _ (h0 _ Z Z)<|h0 _ Z Z
 simp_all
theorem xk (k:Nat) (c:XC) (s:TS):Grown s (cS k c s).1:=by
 grind [cS,Grown.refl,FE]
theorem pc (k:Nat) (c:XC):∀(f:Nat) (s:TS),Grown s (v7 k c f s)
 | 0,s=>Grown.refl s
 | f+1,s=>by
  show Grown s (bif (cS k c s).2 then v7 k c f (cS k c s).1 else(cS k c s).1);exact cO (P:=Grown s) _ ((xk k c s).trans<|pc k c f _)<|xk k c s
def iH (c:XC) (s:TS):Prop:=s.asks=true->∃x,c.ins[s.at_]? =some x/\(x.kind=2∨x.kind=4∨x.kind=5∨x.kind=6)
theorem Hv {k:Nat} {x:XI} {s:TS} {bI:Int} (hx:iO bI nins k x=true) (hs:s.asks=false):(gR k x s).1.asks=true->(gR k x s).1.at_=s.at_/\(x.kind=2∨x.kind=4∨x.kind=5∨x.kind=6)/\(gR k x s).2=false:=by
 obtain⟨n,sh,hn,n1,aa,_,_⟩:=ke hx;obtain⟨P,hP⟩:∃P:TS×Bool->Prop,P=fun r=>r.1.asks=true->r.1.at_=s.at_/\(x.kind=2∨x.kind=4∨x.kind=5∨x.kind=6)/\r.2=false:=⟨_,Z⟩
 have ab:∀r:TS×Bool,r.1.asks=s.asks->P r:=fun r h1=>by simp_all
 have ne:∀m:Int,N x.kind m=false->x.kind≠m:=fun m h e=>by rw[e,dt] at h;cases h
 have:P (gR k x s):=by
  unfold gR
  grind
 simp_all
theorem BN {k:Nat} (d:fK k c) {s:TS} (u:s.asks=false):iH c (cS k c s).1/\((cS k c s).2=true->(cS k c s).1.asks=false):=by
 unfold cS;cases hx:c.ins[s.at_]? with
 | none=>exact⟨fun h=>(by simp_all),fun h=>(by cases h)⟩
 | some x=>
  have h:=Hv (k:=k) (d.right x (gB_ hx)) u;refine⟨fun ha=>?_,fun h2=>?_⟩
  ·simp_all
  simp_all
theorem CE {k:Nat} {c:XC} (u:fK k c):∀(f:Nat) (s:TS),s.asks=false->iH c (v7 k c f s)
 | 0,s,d=>fun h=>by rw[show s.asks=true from h] at d;cases d
 | f+1,s,d=>by
  have h:=BN u d;show iH c (bif (cS k c s).2 then v7 k c f (cS k c s).1 else(cS k c s).1);cases w:(cS k c s).2 with
  | true=>exact CE u f _ (h.2 w)
  | false=>exact h.1
theorem pO {k:Nat} (d:fK k c):iH c (kA k c):=CE d _ _ Z
theorem qG {k:Nat} (d:fK k c) (s:TS) (v:Int):iH c (eQ k c s v):=CE d _ _ Z
theorem jo {a:qD} {v:Int} (h:a.kind=2∨a.kind=4∨a.kind=5∨a.kind=6):cC (bQ a v)=true/\(bQ a v).read=v:=by
 unfold bQ;rcases h with h | h | h | h<;>rw[h]
 ·exact⟨Z,Z⟩
 ·exact cO (P:=fun e:cz=>cC e=true/\e.read=v) (N v a.a) ⟨Z,Z⟩ ⟨Z,Z⟩
 ·exact⟨Z,Z⟩
 exact⟨Z,Z⟩
theorem rV {k:Nat} {s:TS} (h:iH c s) (d:s.asks=true):((mT k c s).kind=2∨(mT k c s).kind=4∨(mT k c s).kind=5∨(mT k c s).kind=6):=by
 obtain⟨x,hx,hk⟩:=h d;unfold mT;rw[hx];exact hk
theorem sW {k:Nat} {s:TS} (h:iH c s) (d:s.asks=true) (v:Int):∃ext,(eQ k c s v).events=s.events++bQ (mT k c s) v::ext/\du (bQ (mT k c s) v::ext)= [v]:=by
 obtain⟨⟨ext,h1,u⟩,_⟩:=pc k c (iK c) (fm k c s v);obtain⟨w,z⟩:=jo (v:=v) (rV (k:=k) h d);refine⟨ext,?_,?_⟩
 ·unfold eQ;rw[h1];show(s.events++[_])++ext=_
  simp_all
 rw[show bQ (mT k c s) v::ext= [bQ (mT k c s) v]++ext from Z,jN,zR w,u,z];rfl
theorem uk {k:Nat} {c:XC} (d:fK k c):∀(A:List Int) (s:TS),iH c s->iH c (kU k c A s)/\∃ext m,(kU k c A s).events=s.events++ext/\du ext=A.take m/\((kU k c A s).asks=true->A.length<=m)
 | [],s,h=>⟨h,[],0,by show s.events=_;simp,Z,fun _=>nR_ _⟩
 | v::r,s,h=>by
  show iH c (bif s.asks then kU k c r (eQ k c s v) else s)/\∃ext m,(bif s.asks then kU k c r (eQ k c s v) else s).events=s.events++ext/\du ext=(v::r).take m/\((bif s.asks then kU k c r (eQ k c s v) else s).asks=true->(v::r).length<=m);cases u:s.asks with
  | false=>exact⟨h,[],0,by simp_all,Z,fun h'=>by simp_all⟩
  | true=>
   obtain⟨e1,h1,w⟩:=sW (k:=k) h u v;obtain⟨q,ext,m,h3,h4,h5⟩:=uk d r _ (qG d s v);refine⟨q,bQ (mT k c s) v::e1++ext,m+1,?_,?_,fun h'=>?_⟩
   ·simp_all
   ·rw[jN,w,h4];rfl
   simp_all
theorem BM {k:Nat} {c:XC} (v:Int):∀(A:List Int) (s:TS),kU k c (A++[v]) s=bif (kU k c A s).asks then eQ k c (kU k c A s) v else kU k c A s
 | [],s=>rfl
 | a::r,s=>by
  show(bif s.asks then kU k c (r++[v]) (eQ k c s a) else s)=bif (bif s.asks then kU k c r (eQ k c s a) else s).asks then eQ k c (bif s.asks then kU k c r (eQ k c s a) else s) v else(bif s.asks then kU k c r (eQ k c s a) else s);cases ha:s.asks with
  | false=>simp_all
  | true=>simp only[cond_true];exact BM v r _
theorem um {k:Nat} (d:fK k c) (A:List Int):iH c (fP k c A)/\∃m,du (fP k c A).events=A.take m/\((fP k c A).asks=true->A.length<=m):=by
 obtain⟨h,ext,m,h1,h2,h3⟩:=uk d A (kA k c) (pO d);obtain⟨⟨e0,h4,h5⟩,_⟩:=pc k c (iK c) ⟨0,replicate c.bI.toNat 0,[],0,0,false⟩
 grind [fP,jN,kA]
theorem r7 {s:TS} {l:List cz}:qW s l=true↔∃rest,s.events=l++rest:=by
 grind [qW,dF,List.take_append_drop,gP]
def kX (k:Nat) (c:XC) (l:List cz):Prop:=n7 k c=true/\qW (fP k c<|du l) l=true
theorem Hp {k:Nat} (d:fK k c) {l:List cz} (h:(fP k c<|du l).events=l++rest):du rest= []:=by
 obtain⟨_,m,h1,_⟩:=um d (du l);rw[h,jN] at h1;have:=congrArg List.length h1
 grind [List.length_eq_zero_iff]
theorem yM {k:Nat} {l:List cz} {e:cz} (h:kX k c l) (he:(fP k c<|du l).events[l.length]? =some e):kX k c (l++[e])/\cC e=false:=by
 obtain⟨hf,h⟩:=h;have hc:=(sa hf).1;obtain⟨rest,hr⟩:=r7.1 h;have hq:=Hp hc hr;rw[hr,gR_<|nR_ _,Nat.sub_self] at he;cases rest with
 | nil=>cases he
 | cons e' r=>
  simp only[zm_,oJ_] at he;subst he;have hne:=Fc hq e' (mS_ ..);refine⟨⟨hf,?_⟩,hne⟩;rw[jN,BG hne,zk_];exact r7.2 ⟨r,by rw[hr];simp⟩
theorem wV {k:Nat} {l:List cz} (h:kX k c l) (he:(fP k c<|du l).events[l.length]? =none) (d:(fP k c<|du l).asks=true) (v:Int):kX k c (l++[bQ (mT k c<|fP k c<|du l) v]):=by
 obtain⟨hf,h⟩:=h;have hc:=(sa hf).1;obtain⟨rest,hr⟩:=r7.1 h
 have hl:rest= []:=by
  simp_all
 subst hl;rw[zk_] at hr;have hk:=(um hc<|du l).1;obtain⟨u,w⟩:=jo (v:=v) (rV (k:=k) hk d);refine⟨hf,?_⟩;rw[jN,zR u,w]
 have e1:fP k c (du l++[v])=eQ k c (fP k c<|du l) v:=by
  unfold fP at d⊢;rw[BM,d];rfl
 rw[e1];obtain⟨ext,h1,_⟩:=sW (k:=k) hk d v;exact r7.2 ⟨ext,by rw[h1,hr];simp⟩
theorem jR {k:Nat}:N (jE k c) 0=n7 k c:=by
 unfold jE;cases h:n7 k c with
 | true=>rfl
 | false=>
  simp only[cond_false];cases h1:N (fq k c) 0 with
  | true=>rfl
  | false=>exact h1
theorem jG {k:Nat} {l:List cz}:(cm k c l).2=0↔kX k c l:=by
 unfold cm kX;rw[jR];cases hf:n7 k c with
 | false=>
  refine⟨fun h=>?_,fun h=>(by cases h.1)⟩;have h:jE k c=0:=h;have:=jR (k:=k) (c:=c);rw[h,hf] at this;cases this
 | true=>
  show(mn k c (fP k c<|du l) l).2=0↔_;unfold mn;cases ht:qW (fP k c<|du l) l with
  | false=>exact⟨fun h=>(by cases h),fun h=>(by cases h.2)⟩
  | true=>
   refine⟨fun _=>⟨Z,Z⟩,fun _=>?_⟩;simp only[bC,cond_true,cond_false]
   grind
theorem ET {k:Nat} {l:List cz} (h:(cm k c l).2=0):
  (∃e,cm k c l=(⟨e,jx,0⟩,0)/\kX k c (l++[e])/\cC e=false)∨
  (∃a,cm k c l=(⟨nF,a,0⟩,0)/\(a.kind=2∨a.kind=4∨a.kind=5∨a.kind=6)/\∀v,kX k c (l++[bQ a v]))∨
  (∃n,cm k c l=(⟨nF,jx,n⟩,0)):=by
 have hF:=jG.1 h;obtain⟨hf,d⟩:=hF;have hc:=(sa hf).1;unfold cm;rw[jR,hf];show(∃e,mn k c (fP k c<|du l) l=_/\_)∨_;simp only[bC,cond_true,cond_false];unfold mn;rw[d];simp only[bC,cond_true,cond_false];cases he:(fP k c<|du l).events[l.length]? with
 | some e=>
  obtain⟨h1,h2⟩:=yM ⟨hf,d⟩ he
  simp_all
 | none=>
  cases u:(fP k c<|du l).asks with
  | true=>exact .inr (.inl ⟨_,Z,rV (um hc _).1 u,fun v=>wV ⟨hf,d⟩ he u v⟩)
  | false=>simp_all
theorem F.bF (h:F V K (M++L)):∃d,KP.le K d/\(∀e∈M,d e.1 e.2)/\F V d L:=⟨K.qE M,KP.dM _ _,fun e he=>.inr he,h.keeps⟩
theorem H0 {nx:Nat->List Nat} {n:Nat} (d:∀i,i<n->∀to∈nx i,to<n):∀{f:Nat} {s:DS} {out:List Nat},S4 nx n s->Ea nx f s=some out->out.length<=s.out.length+jX nx n s
 | 0,_,_,_,h=>by cases h
 | f+1,s,out,hw,h=>by
  unfold Ea at h;cases hl:s.path.getLast? with
  | none=>
   simp_all
  | some a=>
   rw[hl] at h;dsimp only at h;cases u:m8 nx s a with
   | none=>rw[u] at h;cases h
   | some s'=>
    rw[u] at h;obtain⟨h1,_,h3⟩:=qQ hw d hl u;have:=H0 d h1 h;omega
theorem wi {k:Nat} (d:fK k c) {out:List Nat} (h:ik c=some out):out.length<=16001:=by
 have:=H0 (xN d) (Gq d.pos) (show Ea _ _ _=some out from h);rw[Mw] at this;have h1:(Ec c.ins.length).out.length=0:=rfl;have h2:=FL (c:=c);have h3:=d.len;omega
theorem qi {k:Nat} {s:TS} {x:XI} (hx:c.ins[s.at_]? =some x) (h:(cS k c s).2=true):(cS k c s).1.at_∈eI c s.at_:=by
 obtain⟨P,w⟩:∃P:TS×Bool->Prop,P=fun r=>r.2=true->r.1.at_∈eI c s.at_:=⟨_,Z⟩
 have z:eI c s.at_=(iB x s.at_).map toNat:=by unfold eI;rw[hx]
 have u:∀r:TS×Bool,r.2=false->P r:=fun r h1=>by simp_all
 have d:(N x.kind 10=false)->(N x.kind 12=false)->(N x.kind 13=false)->∀r:TS×Bool,r.1.at_=s.at_+1->P r:=fun h0 h2 h3 r h1=>by
  grind [iB]
 have ne:∀(a b:Int),N x.kind a=true->a≠b->N x.kind b=false:=fun a b h h'=>by
  rw[eB,decide_eq_true_iff] at h;rw[eB,decide_eq_false_iff_not,h];exact h'
 have:P (cS k c s):=by
  unfold cS;rw[hx];dsimp only;unfold gR
  refine fD _ (fun e=>d (ne _ _ e (by decide)) (ne _ _ e (by decide)) (ne _ _ e (by decide)) _ Z) fun e1=>fD _ (fun e=>d (ne _ _ e (by decide)) (ne _ _ e (by decide)) (ne _ _ e (by decide)) _ Z) fun e3=>fD _ (fun e=>d (ne _ _ e (by decide)) (ne _ _ e (by decide)) (ne _ _ e (by decide)) _ Z) fun e7=>
   fD _ (fun e=>cO _ (u _ Z) (d (ne _ _ e (by decide)) (ne _ _ e (by decide)) (ne _ _ e (by decide)) _ Z)) fun e8=>fD _ (fun e=>cO _ (u _ Z) (d (ne _ _ e (by decide)) (ne _ _ e (by decide)) (ne _ _ e (by decide)) _ Z)) fun e9=>
   fD _ (fun e=>?_) fun aa=>fD _ (fun e=>cO _ ?_ (d (ne _ _ e (by decide)) (ne _ _ e (by decide)) (ne _ _ e (by decide)) _ Z)) fun ab=>fD _ (fun _=>u _ Z) fun ac=>fD _ (fun _=>u _ Z) fun am=>u _ Z
  ·rw[w];intro _;rw[z];unfold iB;rw[e];simp
  grind [iB]
 simp_all
theorem sG {k:Nat} {s:TS}:(cS k c s).1.bI.length=s.bI.length/\(cS k c s).1.events.length<=s.events.length+1:=by
 obtain⟨P,hP⟩:∃P:TS×Bool->Prop,P=fun r=>r.1.bI.length=s.bI.length/\r.1.events.length<=s.events.length+1:=⟨_,Z⟩
 have h0:∀r:TS×Bool,r.1.bI=s.bI->r.1.events=s.events->P r:=fun r h1 d=>by simp_all
 have h1:∀(r:TS×Bool) (e:cz),r.1.bI=s.bI->r.1.events=s.events++[e]->P r:=fun r e h1 d=>by simp_all
 have:P (cS k c s):=by
  unfold cS;cases hx:c.ins[s.at_]? with
  | none=>exact h0 _ Z Z
  | some x=>
   dsimp only;unfold gR
   grind
 simp_all
structure Wp (c:XC) (s:TS):Prop where
 at_:s.at_<c.ins.length
 bI:s.bI.length=c.bI.toNat
 events:s.events.length<=1000000
theorem results_none {fn:Func} {t:PT U} (hr:fn.results.toList= []):fO P fn t V=some (.tuple []):=by
 unfold fO;rw[hr];rfl
theorem Ef {fn:Func} {R:U->aF->Prop} {t:PT U} (hr:fn.results.toList= []) (d:R (.tuple []) V):Ee P fn R .normal t V:=⟨.inl Z,_,results_none hr,d⟩
variable {ca fi:List U}
theorem F.vy {V σ0:aF} {M d:Own} (h0:F σ0 K (M++d)) (h:F V (K.qE M) L):F V K (M++L) where
 kept b o hb:=by
  obtain⟨h1,u,h3⟩:=h.kept b o (.inl hb);refine⟨h1,u,fun e he=>?_⟩;rcases List.mem_append.1 he with he | he
  ·exact(h0.kept b o hb).2.2 e (List.mem_append_left _ he)
  exact h3 e he
 own e he:=by
  rcases List.mem_append.1 he with he | he
  ·exact⟨(h.kept e.1 e.2 (.inr he)).1,(h.kept e.1 e.2 (.inr he)).2.1⟩
  exact h.own e he
 ne:=List.pairwise_append.2 ⟨(List.pairwise_append.1 h0.ne).1,h.ne,fun a w b hb e=>(h.kept a.1 a.2 (.inr w)).2.2 b hb e.symm⟩
theorem CX (R:Plain G) {b:Nat} {ev:U} (hv:mz K g b iv ev fv pv) (aa:H g<=62) {fn:Nat} (B:l6 Tryz.prog fn=true) (hf:∀i,i<H g->∀(V:aF) (L:Own),F V K L->EC G fn (fi++([nI i]++ca)) V fun u V'=>u= .bool (p i)/\F V' K L) (O:F V K L):
  EC G 330 [.ptr b 0,.func fn fi ca] V fun u V'=>u= .int .u64 (.ofNat<|bA (H g) p)/\F V' K L:=by
 refine VV R Tryz.func330 Z<|UD 14 Z<|I Z (bV Z) Z<|I Z (WR 0 Z) Z<|I Z (WS Z (O.bY hv.row) Z) Z<|I Z (WT hv.ids Z Z Z (e:=68) Z) Z<|UH 4 Z ?_;obtain⟨LL1,O,hLL1⟩:=O.named;refine bk ([5,6]++rg 12 12) (fun j t V=>∃(i:Nat),j+i=H g/\t.get 5=some (.int .u64 (.ofNat<|bA i p))/\t.get 12=some (nI i)/\F V K LL1) (H g) ⟨0,Z,Z,Z,O⟩ ?_;clear O;intro Q t V ar S;obtain⟨i,ab,C,A,O⟩:=S;subst hLL1;obtain⟨oo,rfl⟩:=ar.q2 C A Z;refine Vo 6 Z<|aG Z (fun d=>?_) (fun d=>?_)
 ·refine Ta 6 Z ?_;have E:i<H g:=bd d;refine UJ 8 Z<|g8 Z (aO Z Z Z B) (fun _=>Z) (hf i E _ _ O) (fun w V O=>?_) (fun w V O=>?_)
  ·refine Vs 6 Z (I Z (fJ (j:=i) oM Y Y Y Z) Z (I Z (ay (v:=.int .u64 (.ofNat (2 ^ i))) Z Z<|xn oM) Z (I Z (ay (v:=.int .u64 (.ofNat<|bA i p ||| 2 ^ i)) Z Z<|xA (cZ oM _)<|Nat.pow_lt_pow_right oM oM) Z<|V6 2 Z<|aD<|V0 4 Z<|aJ ⟨Q-1,by omega,oF,i+1,by omega,congrArg (fun z=>some (U.int .u64 (.ofNat z))) (by show _=bA i p ||| (bif p i then 2 ^ i else 0);rw[w];rfl),cI<|aX oM,O⟩)))
  refine UK 5 Z<|V0 4 Z<|aJ ⟨Q-1,by omega,oF,i+1,by omega,congrArg (fun z=>some (U.int .u64 (.ofNat z))) (by show _=bA i p ||| (bif p i then 2 ^ i else 0);rw[w];exact(Nat.or_zero _).symm),cI<|aX oM,O⟩
 refine UG 3 Z<|aR<|V5 7 Z ?_;have M:i=H g:=by have h:H g<=i:=bJ d;omega
 subst M;exact aB Z Z ⟨Z,O⟩
theorem Bv (hG:Plain G) {b:Nat} {ev:U} (hv:mz K g b iv ev fv pv) (ac:H g<=62) {fn:Nat} (am:l6 Tryz.prog fn=true) {R:Rn} (hf:∀i q,i<H g->q<H g->∀(V:aF) (L:Own),F V K L->EC G fn (fi++([nI i,nI q]++ca)) V fun u V'=>u= .bool (R i q)/\F V' K L) (O:F V K L):
  EC G 257 [.ptr b 0,.func fn fi ca] V fun u V'=>∃Q c,KP.le K Q/\u= .agg [nI<|H g,.slice c 0 (H g) (.known<|H g)]/\F V' Q ((c,.row ((bp (H g) R).map gU) 233 false)::L):=by
 refine VV hG Tryz.func257 Z<|Vp 2 Z<|kb O (WU (cs:=[J,.ax])) (fun V b1 O=>?_);refine TY 11 Z (I Z (bV Z) Z (I Z (WR 0 Z) Z (I Z (WS Z (O.bY hv.row) Z) Z (I Z (WT hv.ids Z Z Z (e:=68) Z) Z (UH 4 Z (bk ([5,6,7]++rg 13 23) (fun j t V=>∃(i:Nat) (u:U) (M:Own),j+i=H g/\cQ 2 252 RP (eV (H g) R i 0) u M/\t.get 5=some (u)/\t.get 13=some (nI i)/\F V K (M++(b1,.row [J,.ax] 173 false)::L)) (H g) ⟨0,_,[],Z,(show cQ 2 252 RP (eV (H g) R 0 0) .ax [] from .inl ⟨by unfold eV;simp,Z,Z⟩),Z,Z,O⟩ ?_))))));clear O;intro j3 t V ar hI;obtain⟨i,u,M,a1,hO,w,S,O⟩:=hI;obtain⟨oo,rfl⟩:=ar.q2 w S Z;refine Vo 6 Z<|aG Z (fun d=>?_) (fun d=>?_)
 ·refine Ta 13 Z (I Z (bV Z) Z (I Z (WR 0 Z) Z (I Z (WS Z (O.bY hv.row) Z) Z (I Z (WT hv.ids Z Z Z (e:=68) Z) Z (UH 4 Z (bk ([5,7]++rg 21 14) (fun j t V=>∃(q:Nat) (T:U) (W:Own),j+q=H g/\cQ 2 252 RP (eV (H g) R i q) T W/\t.get 5=some (T)/\t.get 21=some (nI q)/\F V K (W++(b1,.row [J,.ax] 173 false)::L)) (H g) ⟨0,u,M,Z,hO,Z,Z,O⟩ ?_))))));clear O;intro j6 t V ar hI;obtain⟨q,T,W,a2,hO2,w,aa,O⟩:=hI;obtain⟨oo,rfl⟩:=ar.q2 w aa Z;refine Vo 6 Z<|aG Z (fun A=>?_) (fun A=>?_)
  ·refine Ta 12 Z ?_;have ao:i<H g:=bd d;have ap:q<H g:=bd A;refine V7 3 Z<|g8 Z (aO Z Z Z am) (fun _=>Z) (hf i q ao ap _ _ O) (fun B V O=>?_) (fun B V O=>?_)
   ·refine Vs 7 Z<|I Z (kS (e:=3) (n:=2) (m:=1) (zero:=[J,J]) (cs:=[_,_]) Y Y Y Z) Z<|fg O Z (bR (e:=252) (m:=2) (z:=[J,J]) (cs:=[_,_]) Y Y Y Y<|a6 Z Z Z Z bH) (fun _=>Z) (fun V b2 O=>?_);replace O:=O.pull (.there .here);replace O:=O.pull (.bE<|bG.here (X:=[_]));refine fT (R:=RP) (m:=2) (e:=252) hO2 O (ec (m:=2) Z (show RP (i,q) [nI i,nI q] from Z)) RP.leaf (by have:=jK (n:=H g) (R:=R) (i:=i) (q:=q);have:i*H g<=62*62:=Nat.mul_le_mul oM ac;show _+1<=_;omega) Z Z Z Z Z Z Z (fun _=>Z) (fun V aq a0 hO33 O=>?_);refine V6 2 Z<|aD<|V0 4 Z<|aJ ⟨j6-1,by omega,oF,q+1,aq,a0,by omega,(jM B ▸ hO33),Z,cI<|aX oM,O⟩
   refine UK 5 Z<|V0 4 Z<|aJ ⟨j6-1,by omega,oF,q+1,T,W,by omega,(lB B ▸ hO2),Z,cI<|aX oM,O⟩
  refine UG 3 Z<|aR<|aD<|V0 4 Z ?_;have a3:i<H g:=bd d;have C:q=H g:=by have h:H g<=q:=bJ A;omega
  subst C;refine aJ ⟨j3-1,by omega,oF,i+1,T,W,by omega,(jL ▸ hO2),Z,cI<|aX oM,O⟩
 refine UG 3 Z<|aR<|Vp 3 Z<|I Z (bV Z) Z<|I Z (WR 0 Z) Z<|I Z (WS Z (O.bY hv.row) Z) Z<|I Z (WT hv.ids Z Z Z (e:=68) Z) Z<|vQ 1 Z ?_;have C:i=H g:=by have h:H g<=i:=bJ d;omega
 subst C;rw[n9] at hO;obtain⟨Q,ab,E,O⟩:=F.bF (M:=M) O;have hs1:=hO.ib (K:=Q) fun y hy=>E _ hy
 refine kw (WQ Z Z Z) (Vk hG (n:=H g) oM hs1 pt O) ?_;rintro _ V ⟨b2,rfl,O⟩;rw[mN] at O;refine eZ O Z (WX Z Z Z O.g1 Z) Z (fun V O=>?_);refine Vt 3 Z ?_;exact cA Z Z O.g1 (m:=2) Y Z ⟨Q,b2,ab,Z,O.sub (.cons_cons _ (.cons _ (.refl _)))⟩
theorem Ss (R:Plain G) {b:Nat} {ev:U} (hv:mz K g b iv ev fv pv) (S:cG g) (ao:H g<=62) {i M Q:Nat} (hi:i<H g) (h1:K M (.row [.ptr b 0] 309 false)) (T:K Q (.row [.int .u64 (.ofNat<|bA (H g) p)] 233 false)) (O:F V K L):
  Ca G K L 361 [nI i,.ptr M 0,.ptr Q 0] V <| .bool (yW g p i):=by
 refine VV R Tryz.func361 Z<|Vo 6 Z<|aP (l:=zp [0,1,2,3,4,5,6,7,8,9,10,11,12,13,14,15,16,17,18,19,20,21,22,23]) Y Y<|aj Z Z (WS Z (O.bY h1) Z) Z<|aj Z Z (bV Z) Z<|aj Z Z (WR 1 Z) Z<|aj Z Z (WS Z (O.bY hv.row) Z) Z<|wQ 1 Z<|WK (e:=45) (m:=5) hv.ju (eY hi) Z Z Z Z Z (fun ap aa u ab w=>?_);obtain rfl:=w;refine dU u Z Z Z Z (k:=0) Y (lb Z) (fun _=>Z) (fun aq z=>?_);refine aj Z Z (WV O z Z Z) Z<|wQ 1 Z<|fA Z Z (al Z) (fun _=>Z) (fun d=>?_) (fun d=>?_)
 ·refine aj Z Z (WS Z (O.bY T) Z) Z<|aj Z Z (WS Z (O.bY h1) Z) Z<|aj Z Z (bV Z) Z<|aj Z Z (WR 2 Z) Z<|aj Z Z (WS Z (O.bY hv.row) Z) Z<|wQ 1 Z<|WK (e:=3) (m:=1) hv.from_ (rC hi) Z Z Z Z Z (fun ar ac A am B=>?_);obtain rfl:=B;refine aj Z Z (WV O A Z Z) Z ?_;obtain⟨f,E,C,_⟩:=gL S hi (ic d);refine aj Z Z (fJ (j:=f) oM Y Y Y<|cI C) Z (aj Z Z (ay (v:=.int .u64 (.ofNat (bA (H g) p/2 ^ f))) Z Z<|xp oM) Z (aj Z Z (ay (v:=.int .u64 (.ofNat (bA (H g) p/2 ^ f &&& 1))) Z Z<|tq (lt_of_le_of_lt (div_le_self _ _)<|cZ oM _) (by decide)) Z (aj Z Z (ay (v:=.bool ((bA (H g) p).testBit f)) Z Z (FN)) Z<|Vv 5 Z ?_)));exact aB Z Z ⟨cB (by unfold yW;rw[show N (dB g i).kind 3=true from d,C];exact ig E),O⟩
 refine Vv 17 Z ?_;exact aB Z Z ⟨cB (by unfold yW;rw[show N (dB g i).kind 3=false from d];rfl),O⟩
theorem NK {x:Nat} (d:x≠bA (H g) p) (hj:2*(H g-im (H g) p)+(if x=bA (H g) p then 0 else 1)<=j):2*(H g-im (H g) (jW g p))+(if bA (H g) p=bA (H g) (jW g p) then 0 else 1)<j:=by
 rw[if_neg d] at hj;have h1:=Cr (H g) (jW g p);have h0:im (H g) p<=im (H g) (jW g p):=AL fun k hk=>by unfold jW;rw[hk];rfl
 by_cases h:bA (H g) p=bA (H g) (jW g p)
 ·rw[if_pos h];omega
 rw[if_neg h];have:=JC h;omega
theorem Qt (z:cG g) {w x:Nat} (hw:w<H g) (h:DD g w p) (hx:x=bA (H g) p) (A:x=0∨∃d,DD g w d/\x=bA (H g) d/\bA (H g) p=bA (H g) (jW g d)):bA (H g) p=bA (H g) (nJ g w):=by
 rcases A with h0 | ⟨d,h1,u,h3⟩
 ·have:=ig (p:=p) hw;rw[<-hx,h0,h.at_] at this;simp at this
 rw[<-hx,u];exact Qy z hw h1 (by rw[<-u,hx,h3])
theorem Ha (E:Plain G) {b:Nat} {ev:U} (hv:mz K g b iv ev fv pv) (Q:cG g) (C:H g<=62) {w:Nat} (hw:w<H g) (O:F V K L):
  Ca G K L 329 [.ptr b 0,nI w] V <| .int .u64 (.ofNat<|bA (H g)<|nJ g w):=by
 refine VV E Tryz.func329 Z<|Vp 2 Z<|kb O (cd Z Z) (fun V b1 O=>?_);obtain⟨K1,d,u,O⟩:=O.bF (M:=[_]);have h1:=u _ (mS_ ..);clear u;replace hv:=hv.mono d;refine UJ 6 Z (I Z (fJ (j:=w) oM Y Y Y Z) Z (I Z (ay (v:=.int .u64 (.ofNat (2 ^ w))) Z Z<|xn oM) Z<|kb O (WU (cs:=[.int .u64 0])) (fun V b2 O=>?_)));refine ks O (S1 Z Z Z O.g0 (m:=1) Z Z (cells':=[_]) Z) (fun V O=>?_);refine TY 5 Z ?_;rw[<-Qw hw] at O;refine UH 4 Z (bk ([6]++rg 10 9) (fun j t V=>∃(p:Nat->Bool) (x:Nat),2*(H g-im (H g) p)+(if x=bA (H g) p then 0 else 1)<=j/\DD g w p/\(x=0∨∃R,DD g w R/\x=bA (H g) R/\bA (H g) p=bA (H g) (jW g R))/\t.get 6=some (.int .u64 (.ofNat x))/\F V K1 ((b2,.row [.int .u64 (.ofNat<|bA (H g) p)] 233 false)::L)) (2*(H g-im (H g) (fun n=>decide (n=w)))+(if 0=bA (H g) (fun n=>decide (n=w)) then 0 else 1)) ⟨_,0,nR_ _,SG,.inl Z,Z,O⟩ ?_);clear O;intro j3 t V ar hI;obtain⟨p,x,S,A,T,W,O⟩:=hI;obtain⟨oo,rfl⟩:=ar.q1 W Z;refine Vw O 8 [0] Z Z<|aG Z (fun B=>?_) (fun B=>?_)
 ·refine aH<|ad<|aL<|Vp 2 Z ?_;have X:x≠bA (H g) p:=fun e=>by have h:=de B;rw[e,dt] at h;cases h
  refine Vx O 4 [0] Z Z (aP (l:=[(0,[]),(1,[]),(2,[]),(3,[0]),(4,[]),(5,[])]) Y Y<|aj Z Z (WS Z O.g0 Z) Z<|aj Z Z (WS Z (O.bY h1) Z) Z<|wQ 1 Z ?_);have hst0:=O;have hstk:=F.keeps (M:=[_]) O;refine di Z Z (WQ Z Z Z) (fun _=>Z) ((CX E (hv.mono<|KP.dM _ _) C (fn:=361) (fi:=[]) (ca:=[_,_]) Y (fun i hi V L O=>Ss E (hv.mono<|KP.dM _ _) Q (p:=p) C hi (KP.dM _ _ _ _ h1) (.inr<|mS_ ..) O) hstk).mono fun v V' h=>⟨h.1,F.vy (M:=[_]) hst0 h.2⟩) (fun V O=>?_);refine⟨(bf (bo Z Z Z Z Z (WS Z O.g0 Z)<|eu _ _) aU),?_⟩;refine aj Z Z (ay (v:=.int .u64 (.ofNat<|bA (H g)<|jW g p)) Z Z (by rw[<-JB];exact xA (cZ oM _)<|cZ oM _)) Z<|gD O Z Z (S1 Z Z Z O.g0 (m:=1) Z Z (cells':=[_]) Z) Z (fun V O=>?_);refine⟨aU,?_⟩;refine aW<|aD<|aJ ⟨_,NK X S,oF,jW g p,bA (H g) p,nR_ _,Qz Q A,.inr ⟨p,A,Z,Z⟩,Z,O⟩
 refine UG 3 Z<|aR<|Vp 2 Z<|Vy O 5 [0] Z Z ?_;have hx:x=bA (H g) p:=qT.1 (bT B);exact aB Z Z ⟨congrArg (fun z=>U.int .u64 (.ofNat z))<|Qt Q hw A hx T,(O.pop).weaken d⟩
theorem Sm (d:Plain G) {b:Nat} {ev:U} (hv:mz K g b iv ev fv pv) {i a u w:Nat} (hi:i<H g) (z:a<H g) (h1:K u (.row [.ptr b 0] 309 false)) (A:K w (.row [nI a] 3 false)) (O:F V K L):
  Ca G K L 362 [nI i,.ptr u 0,.ptr w 0] V <| .bool (jk g i a):=by
 refine VV d Tryz.func362 Z<|Vp 7 Z<|I Z (WS Z (O.bY h1) Z) Z<|vQ 1 Z<|I Z (WS Z (O.bY A) Z) Z<|kx (WQ Z Z Z) (Sp d hv hi z O) (fun V O=>?_);refine Vt 4 Z ?_;exact aB Z Z ⟨Z,O⟩
theorem ON {s:Nat->Bool} {a:Nat}:(bif N (.ofNat<|bA (H g) s &&& bA (H g) (fun b=>jk g b a)) 0 then false else true)=(false || (true && (range<|H g).any fun b=>s b && jk g b a)):=by
 rw[Bool.false_or,zp_,show(0:Int)= .ofNat 0 from Z,dY];cases h:(range<|H g).any fun b=>s b && jk g b a with
 | true=>rw[decide_eq_false<|HT.2 h];rfl
 | false=>
  have:bA (H g) s &&& bA (H g) (fun b=>jk g b a)=0:=zo_ fun hn=>by rw[HT.1 hn] at h;cases h
  rw[decide_eq_true this];rfl
theorem MY (B:Plain G) {b:Nat} {ev:U} (hv:mz K g b iv ev fv pv) (C:H g<=62) {s:Nat->Bool} {a:Nat} (A:a<H g) (O:F V K L):
  Ca G K L 334 [.ptr b 0,.int .u64 (.ofNat<|bA (H g) s),nI a] V <| .bool (Jb g s a):=by
 refine VV B Tryz.func334 Z<|Vp 2 Z<|kb O (cd Z Z) (fun V b1 O=>?_);refine kb O (cd Z Z) (fun V b2 O=>?_);obtain⟨K1,d,u,O⟩:=O.bF (M:=[_,_]);have h2:=u _ (mS_ ..);have h1:=u _ (mC_ _<|mS_ ..);clear u;replace hv:=hv.mono d;refine TY 7 Z (I Z (WS Z (O.bY h2) Z) Z (I Z (fJ (j:=a) oM Y Y Y Z) Z (I Z (ay (v:=.int .u64 (.ofNat (bA (H g) s/2 ^ a))) Z Z<|xp oM) Z (I Z (ay (v:=.int .u64 (.ofNat (bA (H g) s/2 ^ a &&& 1))) Z Z<|tq (lt_of_le_of_lt (div_le_self _ _)<|cZ oM _) (by decide)) Z (I Z (ay (v:=.bool ((bA (H g) s).testBit a)) Z Z (FN)) Z<|Vr 2 Z<|aG Z (fun w=>?_) (fun w=>?_))))))
 ·refine Vq 7 Z ?_;exact aB Z Z ⟨cB (by unfold Jb;rw[show s a=true from(ig A).symm.trans w];rfl),(O).weaken d⟩
 refine UF 4 Z<|I Z (WS Z (O.bY h1) Z) Z<|I Z (WS Z (O.bY h2) Z) Z<|kx (WQ Z Z Z) (xP B hv A O) (fun V O=>?_);refine ky Z (al Z) (fun z=>?_) (fun z=>?_)
 ·refine vQ 1 Z<|I Z (WS Z (O.bY h1) Z) Z<|vQ 1 Z<|kx (WQ Z Z Z) (CX B hv C (fn:=362) (fi:=[]) (ca:=[_,_]) (p:=fun b=>jk g b a) Y (fun i hi V L O=>Sm B hv hi A h1 h2 O) O) (fun V O=>?_);refine I Z (ay (v:=.int .u64 (.ofNat<|bA (H g) s &&& bA (H g) (fun b=>jk g b a))) Z Z<|tq (cZ oM _)<|cZ oM _) Z<|Vt 6 Z ?_;exact aB Z Z ⟨cB (by unfold Jb;rw[show s a=false from(ig A).symm.trans w,show N (dB g a).kind 4=true from z];exact ON),(O).weaken d⟩
 refine Vt 11 Z ?_;exact aB Z Z ⟨cB (by unfold Jb;rw[show s a=false from(ig A).symm.trans w,show N (dB g a).kind 4=false from z];rfl),(O).weaken d⟩
theorem TP (R:Plain G) {b:Nat} {ev:U} (hv:mz K g b iv ev fv pv) (W:cG g) (ao:H g<=62) {w i S T:Nat} (hi:i<H g) (h1:K S (.row [.ptr b 0] 309 false)) (X:K T (.row [.int .u64 (.ofNat<|bA (H g)<|nJ g w)] 233 false)) (O:F V K L):
  Ca G K L 331 [nI i,.ptr S 0,.ptr T 0] V <| .bool (gX g w i):=by
 refine VV R Tryz.func331 Z<|Vo 6 Z<|aP (l:=zp [0,1,2,3,4,5,6,7,8,9,10,11,12,13,14,15,16,17,18,19,20,21,22,23,24,25,26,27,28]) Y Y<|aj Z Z (WS Z (O.bY h1) Z) Z<|wQ 1 Z<|di Z Z (WQ Z Z Z) (fun _=>Z) (PX R hv hi O) (fun V O=>?_);refine⟨aU,?_⟩;refine fA Z Z (al Z) (fun _=>Z) (fun u=>?_) (fun u=>?_)
 ·refine aj Z Z (WS Z (O.bY h1) Z) Z<|aj Z Z (bV Z) Z<|aj Z Z (WR 1 Z) Z<|aj Z Z (WS Z (O.bY hv.row) Z) Z<|wQ 1 Z<|WK (e:=45) (m:=5) hv.ju (eY hi) Z Z Z Z Z (fun ap aa z ab A=>?_);obtain rfl:=A;refine dU z Z Z Z Z (k:=2) Y (lb Z) (fun _=>Z) (fun aq B=>?_);refine aj Z Z (WV O B Z Z) Z<|V8 2 Z<|fA Z Z (al Z) (fun _=>Z) (fun d=>?_) (fun d=>?_)
  ·refine aj Z Z (WS Z (O.bY X) Z) Z<|aj Z Z (WS Z (O.bY h1) Z) Z<|aj Z Z (bV Z) Z<|aj Z Z (WR 2 Z) Z<|aj Z Z (WS Z (O.bY hv.row) Z) Z<|wQ 1 Z<|WK (e:=3) (m:=1) hv.from_ (rC hi) Z Z Z Z Z (fun ar ac C am E=>?_);obtain rfl:=E;refine aj Z Z (WV O C Z Z) Z ?_;obtain⟨f,Q,M,_⟩:=gL W hi u;refine aj Z Z (fJ (j:=f) oM Y Y Y<|cI M) Z (aj Z Z (ay (v:=.int .u64 (.ofNat (bA (H g) (nJ g w)/2 ^ f))) Z Z<|xp oM) Z (aj Z Z (ay (v:=.int .u64 (.ofNat (bA (H g) (nJ g w)/2 ^ f &&& 1))) Z Z<|tq (lt_of_le_of_lt (div_le_self _ _)<|cZ oM _) (by decide)) Z (aj Z Z (ay (v:=.bool ((bA (H g)<|nJ g w).testBit f)) Z Z (FN)) Z<|Vv 5 Z ?_)));exact aB Z Z ⟨cB (by rw[yn,show cC (dB g i)=true from u,show N (dB g i).order 1=false from de d,M];exact ig Q),O⟩
  refine Vv 17 Z ?_;exact aB Z Z ⟨cB (by rw[yn,show cC (dB g i)=true from u,show N (dB g i).order 1=true from bT d];rfl),O⟩
 refine Vv 28 Z ?_;exact aB Z Z ⟨cB (by rw[yn,show cC (dB g i)=false from u];rfl),O⟩
theorem TQ (d:Plain G) {b:Nat} {ev:U} (hv:mz K g b iv ev fv pv) (u:H g<=62) {w i A B:Nat} (hi:i<H g) (h1:K A (.row [.ptr b 0] 309 false)) (C:K B (.row [.int .u64 (.ofNat<|bA (H g)<|gX g w)] 233 false)) (O:F V K L):
  Ca G K L 332 [nI i,.ptr A 0,.ptr B 0] V <| .bool (rI g w i):=by
 refine VV d Tryz.func332 Z<|Vp 7 Z<|I Z (WS Z (O.bY h1) Z) Z<|vQ 1 Z<|kx (WQ Z Z Z) (G5 d hv hi O) (fun V O=>?_);refine ky Z (al Z) (fun z=>?_) (fun z=>?_)
 ·refine I Z (WS Z (O.bY h1) Z) Z<|I Z (WS Z (O.bY C) Z) Z<|vQ 1 Z<|kx (WQ Z Z Z) (MY d hv u hi O) (fun V O=>?_);refine Vt 5 Z ?_;exact aB Z Z ⟨cB (by unfold rI;rw[show sN g i=true from z];rfl),O⟩
 refine Vt 9 Z ?_;exact aB Z Z ⟨cB (by unfold rI;rw[show sN g i=false from z];rfl),O⟩
theorem TT (z:Plain G) (aa:H g<=62) {i w:Nat} {rv:U} (hi:i<H g) (hq:q<H g) (h3:K w (.row [rv] 171 false)) (hr:bS K 1 RU (bp (H g)<|sU g) rv) (O:F V K L):
  Ca G K L 337 [nI i,nI q,.ptr w 0] V <| .bool (sU g i q):=by
 refine VV z Tryz.func337 Z<|Vp 7 Z<|I Z (WS Z (O.bY h3) Z) Z<|vQ 1 Z<|WJ (e:=233) (m:=1) hr (dn hi) Z Z Z Z (fun p8 ab d ac u=>?_);obtain rfl:=u;refine I Z (WV O d Z Z) Z (vQ 1 Z (I Z (fJ (j:=q) oM Y Y Y Z) Z (I Z (ay (v:=.int .u64 (.ofNat (bA (H g) (sU g i)/2 ^ q))) Z Z<|xp oM) Z (I Z (ay (v:=.int .u64 (.ofNat (bA (H g) (sU g i)/2 ^ q &&& 1))) Z Z<|tq (lt_of_le_of_lt (div_le_self _ _)<|cZ oM _) (by decide)) Z (I Z (ay (v:=.bool ((bA (H g)<|sU g i).testBit q)) Z Z (FN)) Z<|Vt 4 Z ?_)))));exact aB Z Z ⟨cB<|ig hq,O⟩
theorem Vn (E:Plain G) {b:Nat} {ev:U} (hv:mz K g b iv ev fv pv) (hR:cG g) (A:H g<=62) (O:F V K L):
  EC G 264 [.ptr b 0] V fun u V'=>∃K1 c,KP.le K K1/\u= .agg [nI<|H g,.slice c 0 (H g) (.known<|H g)]/\F V' K1 ((c,.row ((bp (H g)<|sU g).map gU) 233 false)::L):=by
 refine VV E Tryz.func264 Z<|Vp 2 Z<|kb O (cd Z Z) (fun V b1 O=>?_);obtain⟨K1,W,X,O⟩:=O.bF (M:=[_]);have h1:=X _ (mS_ ..);clear X;replace hv:=hv.mono W;refine kb O (WU (cs:=[J,.ax])) (fun V b2 O=>?_);refine UJ 4 Z<|I Z (WS Z (O.bY h1) Z) Z<|I Z (bV Z) Z<|I Z (WR 0 Z) Z<|I Z (WS Z (O.bY hv.row) Z) Z<|I Z (WT hv.ids Z Z Z (e:=68) Z) Z<|fg O Z (jd (e:=233) (w:=8) (z:=[gU 0]) Y Y Y Y (show _=some (U.int .i64 (.ofNat<|H g)) from Z) (show _=some (U.int .i64 (.ofNat<|H g)) from Z) oM oM) (fun _=>Z) (fun V b3 O=>?_);rw[gp (f:=gU)] at O;refine kb O (WU (cs:=[.ax])) (fun V b4 O=>?_);refine ks O (S1 Z Z Z O.g0 (m:=1) Z Z (cells':=[_]) Z) (fun V O=>?_);refine TY 5 Z ?_;rw[uj,show bp (H g) (fun _ _=>false)=bp (H g) (IW g 0) from Z] at O;refine I Z (WS Z (O.bY h1) Z) Z (I Z (bV Z) Z (I Z (WR 0 Z) Z (I Z (WS Z (O.bY hv.row) Z) Z (I Z (WT hv.ids Z Z Z (e:=68) Z) Z (UH 4 Z (bk (rg 4 5++rg 20 65) (fun j t V=>∃(w:Nat),j+w=H g/\t.get 20=some (nI w)/\F V K1 ((b4,.row [.slice b3 0 (H g) (.known<|H g)] 171 false)::(b3,.row ((bp (H g)<|IW g w).map gU) 233 false)::(b2,.row [J,.ax] 173 false)::L)) (H g) ⟨0,Z,Z,O⟩ ?_))))));clear O;intro j3 t V ar hI;obtain⟨w,bm,aq,O⟩:=hI;obtain⟨oo,rfl⟩:=ar.q1 aq Z;refine Vo 6 Z<|aG Z (fun ab=>?_) (fun ab=>?_)
 ·refine Ta 6 Z ?_;have S:w<H g:=bd ab;refine TY 7 Z<|I Z (WS Z (O.bY h1) Z) Z<|vQ 1 Z<|kx (WQ Z Z Z) (Ni E hv S O) (fun V O=>?_);refine I Z (df Z) Z<|ky Z (al Z) (fun ac=>?_) (fun ac=>?_)
  ·refine UM 15 Z<|aR<|V0 4 Z ?_;have cw:js g w=false:=by rw[yp,show bl (dB g w)=false from de ac];rfl
   rw[<-FG cw] at O;refine aJ ⟨j3-1,by omega,oF,w+1,by omega,cI<|aX oM,O⟩
  refine I Z (WS Z (O.bY h1) Z) Z<|I Z (bV Z) Z<|I Z (WR 1 Z) Z<|I Z (WS Z (O.bY hv.row) Z) Z<|vQ 1 Z<|WJ (e:=45) (m:=5) hv.ju (eY S) Z Z Z Z (fun bq be a0 bi a1=>?_);obtain rfl:=a1;refine bX a0 Z Z Z (k:=2) Y (lb Z) (fun _=>Z) (fun br a2=>?_);refine I Z (WV O a2 Z Z) Z<|Vr 4 Z<|aG Z (fun am=>?_) (fun am=>?_)
  ·refine bn<|aV<|aR<|V0 4 Z ?_;have cw:js g w=false:=by rw[yp,show N (dB g w).order 1=true from am];exact Bool.and_false _
   rw[<-FG cw] at O;refine aJ ⟨j3-1,by omega,oF,w+1,by omega,cI<|aX oM,O⟩
  refine UF 4 Z<|I Z (WS Z (O.bY h1) Z) Z<|vQ 1 Z<|kx (WQ Z Z Z) (Ha E hv hR A S O) (fun V O=>?_);refine kb O (WU (cs:=[.int .u64 0])) (fun V b5 O=>?_);refine ks O (S1 Z Z Z O.g0 (m:=1) Z Z (cells':=[_]) Z) (fun V O=>?_);refine UJ 4 Z<|I Z (WS Z (O.bY h1) Z) Z<|vQ 1 Z ?_;have hst0:=O;have hstk:=F.keeps (M:=[_]) O;refine kx (WQ Z Z Z) ((CX E (hv.mono<|KP.dM _ _) A (fn:=331) (fi:=[]) (ca:=[_,_]) Y (fun i hi V L O=>TP E (hv.mono<|KP.dM _ _) hR (w:=w) A hi (KP.dM _ _ _ _ h1) (.inr<|mS_ ..) O) hstk).mono fun v V' h=>⟨h.1,F.vy (M:=[_]) hst0 h.2⟩) (fun V O=>?_);refine kb O (WU (cs:=[.int .u64 0])) (fun V b6 O=>?_);refine ks O (S1 Z Z Z O.g0 (m:=1) Z Z (cells':=[_]) Z) (fun V O=>?_);refine Ua O 7 [0] Z Z<|Vr 2 Z<|aG Z (fun a3=>?_) (fun a3=>?_)
  ·refine bn<|aV<|aR<|V0 4 Z ?_;have O:=O.pop;have O:=O.pop;rw[<-NW (qT.1 (show N (.ofNat<|bA (H g)<|gX g w) (.ofNat 0)=true from a3))] at O;refine aJ ⟨j3-1,by omega,oF,w+1,by omega,cI<|aX oM,O⟩
  refine UF 4 Z<|I Z (WS Z (O.bY h1) Z) Z<|vQ 1 Z ?_;have hst0:=O;have hstk:=F.keeps (M:=[_]) O;refine kx (WQ Z Z Z) ((CX E (hv.mono<|KP.dM _ _) A (fn:=332) (fi:=[]) (ca:=[_,_]) Y (fun i hi V L O=>TQ E (hv.mono<|KP.dM _ _) (w:=w) A hi (KP.dM _ _ _ _ h1) (.inr<|mS_ ..) O) hstk).mono fun v V' h=>⟨h.1,F.vy (M:=[_]) hst0 h.2⟩) (fun V O=>?_);refine UJ 5 Z ?_;rw[<-NX] at O;refine I Z (WS Z (O.bY h1) Z) Z (I Z (bV Z) Z (I Z (WR 0 Z) Z (I Z (WS Z (O.bY hv.row) Z) Z (I Z (WT hv.ids Z Z Z (e:=68) Z) Z (UH 4 Z (bk ([8]++rg 54 30) (fun j t V=>∃(r:Nat),j+r=H g/\t.get 54=some (nI r)/\F V K1 ((b6,.row [.int .u64 (.ofNat<|bA (H g)<|gX g w)] 233 false)::(b5,.row [.int .u64 (.ofNat<|bA (H g)<|nJ g w)] 233 false)::(b4,.row [.slice b3 0 (H g) (.known<|H g)] 171 false)::(b3,.row ((bp (H g)<|Ax g w r).map gU) 233 false)::(b2,.row [J,.ax] 173 false)::L)) (H g) ⟨0,Z,Z,O⟩ ?_))))));clear O;intro Q t V ar hI;obtain⟨r,bj,a4,O⟩:=hI;obtain⟨oo,rfl⟩:=ar.q1 a4 Z;refine Vo 6 Z<|aG Z (fun ao=>?_) (fun ao=>?_)
  ·refine Ta 6 Z ?_;have d:r<H g:=bd ao;refine UJ 6 Z<|I Z (WS Z (O.bY h1) Z) Z<|vQ 1 Z<|kx (WQ Z Z Z) (G9 E hv d O) (fun V O=>?_);refine ky Z (al Z) (fun C=>?_) (fun C=>?_)
   ·refine V7 3 Z<|ky Z (al Z) (fun R=>?_) (fun R=>?_)
    ·refine Vs 15 Z ?_;have cr:fZ g w r=true:=by rw[qN,show ru g r=true from C,show N (.ofNat r) (.ofNat w)=true from R];rfl
     refine Wa O 2 [2] Z Z (I Z (eF (e:=233) (m:=1) Y Y Z Z d) Z (I Z (av Z (O.get 3 Z) Y<|gw (dn d) (by first | omega | rfl)) Z (vQ 1 Z (I Z (ay (v:=.int .u64 (.ofNat<|bA (H g) (Ax g w r r) ||| bA (H g) (rI g w))) Z Z<|xA (cZ oM _)<|cZ oM _) Z<|I Z (eF (e:=233) (m:=1) Y Y Z Z d) Z ?_))));refine gm O (.there (.there (.there .here))) Z (aI Z Z Z (O.get 3 Z) (m:=1) Y Z (by rw[lM_];rw[bM];omega) Z (cells':=((bp (H g)<|Ax g w r).set r<|bA (H g) (Ax g w r r) ||| bA (H g) (rI g w)).map (gU)) (dL (f:=gU) (v:=(bA (H g) (Ax g w r r) ||| bA (H g) (rI g w))) (by rw[bM];exact d) (by first | omega | rfl))) Z (fun V O=>?_);rw[IX cr] at O;refine af<|aD<|V0 4 Z<|aJ ⟨Q-1,by omega,oF,r+1,by omega,cI<|aX oM,O⟩
    refine I Z (WS Z (O.bY h1) Z) Z<|vQ 1 Z<|kx (WQ Z Z Z) (xP E hv d O) (fun V O=>?_);refine ky Z (al Z) (fun T=>?_) (fun T=>?_)
    ·refine I Z (WS Z (O.bY h1) Z) Z<|V7 2 Z<|kx (WQ Z Z Z) (Sp E hv d S O) (fun V O=>?_);refine Vr 5 Z<|aG Z (fun ap=>?_) (fun ap=>?_)
     ·refine ai Z ?_;have cr:fZ g w r=true:=by rw[qN,show ru g r=true from C,show N (.ofNat r) (.ofNat w)=false from R,show N (dB g r).kind 4=true from T];exact ap
      refine Wa O 2 [2] Z Z (I Z (eF (e:=233) (m:=1) Y Y Z Z d) Z (I Z (av Z (O.get 3 Z) Y<|gw (dn d) (by first | omega | rfl)) Z (vQ 1 Z (I Z (ay (v:=.int .u64 (.ofNat<|bA (H g) (Ax g w r r) ||| bA (H g) (rI g w))) Z Z<|xA (cZ oM _)<|cZ oM _) Z<|I Z (eF (e:=233) (m:=1) Y Y Z Z d) Z ?_))));refine gm O (.there (.there (.there .here))) Z (aI Z Z Z (O.get 3 Z) (m:=1) Y Z (by rw[lM_];rw[bM];omega) Z (cells':=((bp (H g)<|Ax g w r).set r<|bA (H g) (Ax g w r r) ||| bA (H g) (rI g w)).map (gU)) (dL (f:=gU) (v:=(bA (H g) (Ax g w r r) ||| bA (H g) (rI g w))) (by rw[bM];exact d) (by first | omega | rfl))) Z (fun V O=>?_);rw[IX cr] at O;refine af<|aD<|V0 4 Z<|aJ ⟨Q-1,by omega,oF,r+1,by omega,cI<|aX oM,O⟩
     refine aH<|aD<|V0 4 Z ?_;have cr:fZ g w r=false:=by rw[qN,show ru g r=true from C,show N (.ofNat r) (.ofNat w)=false from R,show N (dB g r).kind 4=true from T];exact ap
     rw[<-Dh cr] at O;refine aJ ⟨Q-1,by omega,oF,r+1,by omega,cI<|aX oM,O⟩
    refine UK 12 Z<|V0 4 Z ?_;have cr:fZ g w r=false:=by rw[qN,show ru g r=true from C,show N (.ofNat r) (.ofNat w)=false from R,show N (dB g r).kind 4=false from T];rfl
    rw[<-Dh cr] at O;refine aJ ⟨Q-1,by omega,oF,r+1,by omega,cI<|aX oM,O⟩
   refine UK 20 Z<|V0 4 Z ?_;have cr:fZ g w r=false:=by rw[qN,show ru g r=false from C];rfl
   rw[<-Dh cr] at O;refine aJ ⟨Q-1,by omega,oF,r+1,by omega,cI<|aX oM,O⟩
  refine UG 3 Z<|aR<|aD<|V0 4 Z ?_;have O:=O.pop;have O:=O.pop;have a9:r=H g:=by have h:H g<=r:=bJ ao;omega
  subst a9;have cw:js g w=true:=by rw[yp,show bl (dB g w)=true from bT ac,show N (dB g w).order 1=false from am];rfl
  rw[QB cw] at O;refine aJ ⟨j3-1,by omega,oF,w+1,by omega,cI<|aX oM,O⟩
 refine UG 3 Z<|aR<|Vp 2 Z<|I Z (WS Z (O.bY h1) Z) Z<|vQ 1 Z ?_;have bb:w=H g:=by have h:H g<=w:=bJ ab;omega
 subst bb;rw[QA] at O;obtain⟨K2,aa,B,O⟩:=F.bF (M:=[_,_]) O;have h4:=B _ (mS_ ..);have h3:=B _ (mC_ _<|mS_ ..);clear B;replace hv:=hv.mono aa;have hrw:=dT h3 (bM (H g) _) oM;refine kw (WQ Z Z Z) (Bv E hv A (fn:=337) (fi:=[]) (ca:=[_]) Y (fun i q hi hq V L O=>TT E A hi hq h4 hrw O) O) ?_;rintro _ V ⟨K3,b5,a5,rfl,O⟩;refine eZ O Z (WX Z Z Z O.g1 Z) Z (fun V O=>?_);refine Vt 3 Z ?_;exact cA Z Z O.g1 (m:=2) Y Z ⟨K3,b5,kR W<|kR aa a5,Z,O.sub (.cons_cons _ (.cons _ (.refl _)))⟩
end Go.Ev
namespace Go.Ev
section
variable [Env] {H_:Type}
def Fit (P:q6):Nat->y_->w_ H_->Prop
  | 0,_,_=>False
  | fuel+1,t,d=>
    match P.underlying t with
    | some .bool=>∃b,d= .lit (.bool b)
    | some (.int k)=>∃n,d= .lit (.int k n)
    | some .string=>∃s,d= .lit (.string s)/\s.length<=maxLen
    | some (.slice e)=>d= .nil∨∃elems spare,d= .slice elems spare/\∀x∈elems,Fit P fuel e x
    | some (.struct fs)=>∃parts,d= .agg parts/\parts.length=fs.size/\∀(i:Nat) (f:Field) (x:w_ H_),fs[i]? =some f->parts[i]? =some x->Fit P fuel f.type x
    | _=>True
theorem EN {α β:Type} {f:α->Option β}:∀{l:List α} {ys:List β},l.mapM f=some ys->ys.length=l.length/\∀(i:Nat) (x:α),l[i]? =some x->∃y,ys[i]? =some y/\f x=some y
  | [],ys,h=>by simp_all
  | a::l,ys,h=>by
    simp only[List.mapM_cons,Option.bind_eq_bind,Option.bind_eq_some_iff,Option.pure_def,oJ_] at h;obtain⟨y,h1,r,d,rfl⟩:=h;obtain⟨k1,k2⟩:=EN d
    grind
variable {enc:y_×j_->H_} {P:q6} {w:x_}
theorem nY:∀(fuel:Nat) (t:y_) (cs:List j_) (d:w_ H_) (p:List MemPlace),DataW.trod enc P w 0 (fun _=>true) true fuel t cs=some (d,p)->Fit P fuel t d
  | 0,_,_,_,_,h=>by simp[DataW.trod] at h
  | fuel+1,t,cs,d,p,h=>by
    have ih:=nY fuel;unfold Fit;cases hu:P.underlying t with
    | none=>trivial
    | some u=>
      unfold DataW.trod at h;rw[hu] at h;cases u with
      | bool=>
        split at h<;>first | (rename_i he;cases he;done) | skip
        all_goals first
          | (cases h;exact⟨_,Z⟩)
          | cases h
      | int k=>
        split at h<;>first | (rename_i he;cases he;done) | skip
        all_goals first
          | (rename_i B k2 n he
             cases he;split at h
             · cases h;exact⟨_,Z⟩
             · cases h)
          | cases h
      | string=>
        split at h<;>first | (rename_i he;cases he;done) | skip
        all_goals first
          | (split at h
             · rename_i C;cases h;exact⟨_,Z,by rw[Array.length_toList];exact C⟩
             · cases h)
          | cases h
      | struct fs=>
        dsimp only at h⊢;split at h
        · obtain⟨xs,E,hx⟩:=oM_.1 h
          have z:d= .agg (xs.map (·.1)):=by have:=congrArg Prod.fst hx;simpa using this.symm
          obtain⟨B,k2⟩:=EN E;refine⟨_,z,by simpa using B,fun i f x hf A=>?_⟩;obtain⟨y,K,L⟩:=k2 i f (by rw[aT_];exact hf);rw[gM_,K] at A;cases A;exact ih _ _ _ y.2 L
        · cases h
      | slice e=>
        split at h<;>first | (rename_i he;cases he;done) | skip
        · cases h;exact .inl Z
        · rename_i e' a len cap he
          cases he;dsimp only at h;rw[if_pos Z] at h;split at h
          · obtain⟨elems,M,hr⟩:=Option.bind_eq_some_iff.1 h
            obtain⟨rest,_,z⟩:=oM_.1 hr;have z:d= .slice (elems.map (·.1)) (rest.map (·.1)):=by have:=congrArg Prod.fst z;simpa using this.symm
            refine .inr ⟨_,_,z,fun x hx=>?_⟩;obtain⟨y,K,rfl⟩:=zn_.1 hx;obtain⟨i,hi⟩:=gO_ K;obtain⟨B,k2⟩:=np M;obtain⟨j,_,hj⟩:=k2 i y hi;obtain⟨c,_,Q⟩:=Option.bind_eq_some_iff.1 hj;exact ih _ _ _ y.2 Q
          · cases h
        all_goals cases h
      | _=>trivial
end
section
variable [Env] {P:q6} {G:Cx}
def xW (V:aF):KP:=fun b o=>b<V.next/\V.m.get b=some o
theorem F.of (V:aF):F V (xW V) []:=⟨fun b o h=>⟨h.1,h.2,fun e he=>by cases he⟩,fun e he=>(by cases he),List.Pairwise.nil⟩
theorem kY.TI {w w':x_} {D D':dD} {V V':aF} (h:fL D V w D' V' w') (hr:lQ V):kY w w':=
  ⟨h.os,h.out,h.tape,h.size,fun r d=>h.frame r d fun⟨b,o,l,h1,u,_⟩=>by rw[hr b o h1] at u;cases u⟩
theorem DW (hm:P.follows .mixedOrders=true) (d:DB P G) {D:dD} {V:aF} {w:x_} {f:Nat} {args:List U} {xs:Array j_} {R:U->aF->Prop} (hi:Inv D V w) (u:GR D G) (hr:lQ V) (hx:dN D args xs.toList) (h:a8 P G f args V R):
    Calls P f xs w fun e w'=>∃v x V' D',e= .returned x/\kY w w'/\VR D' v x/\R v V':=by
  obtain⟨K,v,V',h1,z⟩:=h;exact qV (fuel:=K) hm d (h1 K<|nR_ _) hi u hx fun D' w' x _ st hv=>⟨v,x,V',D',Z,kY.TI st hr,hv,z⟩
theorem lQ.leaf:lQ σ0:=fun b o h=>by
  have:(PT.leaf:PT cU).get b=some o:=h;rw[PT.nd] at this;cases this
theorem fc.fresh {D:dD} {V:aF} {w:x_} (hi:Inv D V w) {b:Nat} {o:cU} (h:V.m.get b=some o):b<V.next:=by
  rcases Nat.lt_or_ge b V.next with h' | h'
  · exact h'
  · rw[(hi.fresh b h').2] at h;cases h
end
section
variable {H_:Type}
def uS:w_ H_->Int
 | .lit (.int _ n)=>n
 | _=>0
def TC:w_ H_->List Nat
 | .lit (.string s)=>s.map UInt8.toNat
 | _=>[]
def kD:w_ H_->List (w_ H_)
 | .slice l _=>l
 | _=>[]
def fh (d:w_ H_) (i:Nat):w_ H_:=
 match d with
 | .agg ps=>ps.getD i .nil
 | _=>.nil
def Kw:Nat->w_ H_->XE
 | 0,_=>.mk 0 0 [] []
 | 1,_=>.mk 0 0 [] []
 | k+2,d=>.mk (uS<|fh d 0) (uS<|fh d 1) (TC<|fh d 2) ((kD<|fh d 3).map<|Kw k)
def SK (k:Nat) (d:w_ H_):XI:=⟨uS<|fh d 0,uS<|fh d 1,uS<|fh d 2,uS<|fh d 3,uS<|fh d 4,(kD<|fh d 5).map<|Kw k⟩
def QC (k:Nat) (d:w_ H_):XC:=⟨uS<|fh d 0,(kD<|fh d 1).map<|SK k⟩
end
section
variable [Env] {H_:Type} {P:q6} {V:aF}
theorem oC {fuel:Nat} {t:y_} {d:w_ H_} {vs:List U} {k:w0} (hu:P.underlying t=some (.int k)) (hf:Fit P fuel t d) (u:fc P V fuel t d vs):vs= [.int k<|uS d]/\(Lit.int k<|uS d).wf=true:=by
 cases fuel with
 | zero=>exact hf.elim
 | succ fuel=>
  unfold Fit at hf;rw[hu] at hf;obtain⟨n,rfl⟩:=hf;unfold fc at u;rw[hu] at u;obtain⟨_,w,rfl⟩:=u;exact⟨Z,w⟩
theorem SJ {fuel:Nat} {t:y_} {d:w_ H_} {vs:List U} (hu:P.underlying t=some .string) (hf:Fit P fuel t d) (u:fc P V fuel t d vs):vs= [.str<|TC d]:=by
 cases fuel with
 | zero=>exact hf.elim
 | succ fuel=>
  unfold Fit at hf;rw[hu] at hf;obtain⟨n,rfl,_⟩:=hf;unfold fc at u;rw[hu] at u;exact u.2
theorem pB {α:Type} {fuel:Nat} {t e:y_} {m:Nat} {d:w_ H_} {vs:List U} (F_:w_ H_->α) (R:α->List U->Prop) (hu:P.underlying t=some (.slice e)) (hm:P.cellsOf e=m) (h1:1<=m) (hn:∀(b:Nat) (o:cU),V.m.get b=some o->b<V.next) (hf:Fit P (fuel+1) t d) (u:fc P V (fuel+1) t d vs)
  (hR:∀x vs,Fit P fuel e x->fc P V fuel e x vs->R (F_ x) vs):∃v,vs= [v]/\bS (xW V) m R ((kD d).map F_) v:=by
 unfold Fit at hf;rw[hu] at hf;dsimp only at hf;unfold fc at u;rw[hu] at u;rcases hf with rfl | ⟨elems,spare,rfl,aa⟩
 ·dsimp only at u;exact⟨_,u,.inl ⟨Z,Z⟩⟩
 dsimp only at u;rw[hm] at u;obtain⟨b,c,cells,e',rfl,k2,w,z,A,k6⟩:=u h1;refine⟨_,Z,.inr ⟨b,0,c,cells,e',true,by rw[show(kD<|DataW.slice elems spare).map F_=elems.map F_ from Z,lM_],?_,⟨hn b _ w,w⟩,?_,?_,fun i x hx=>?_⟩⟩
 ·rw[show(kD<|DataW.slice elems spare).map F_=elems.map F_ from Z,lM_];rcases z with rfl | rfl
  ·exact .inr ⟨_,Z,Nat.le_add_right _ _⟩
  exact .inl Z
 ·rw[show(kD<|DataW.slice elems spare).map F_=elems.map F_ from Z,lM_,A,nA_];exact nR_ _
 ·rw[show(kD<|DataW.slice elems spare).map F_=elems.map F_ from Z,lM_];exact k2
 rw[show(kD<|DataW.slice elems spare).map F_=elems.map F_ from Z,gM_,oM_] at hx
 grind
theorem sH {fuel:Nat} {t:y_} {fs:Array Field} {d:w_ H_} {vs:List U} {m:Nat} (hu:P.underlying t=some (.struct fs)) (hc:P.cellsOf t=m) (ht:rJ P fs.toList 0=some m) (hf:Fit P (fuel+1) t d) (u:fc P V (fuel+1) t d vs):
  vs.length=m/\∀(i:Nat) (f:Field),fs[i]? =some f->Fit P fuel f.type (fh d i)/\fc P V fuel f.type (fh d i) ((vs.drop f.offset).take<|P.cellsOf f.type):=by
 unfold Fit at hf;rw[hu] at hf;dsimp only at hf;obtain⟨parts,rfl,hn,aa⟩:=hf;unfold fc at u
 grind [fh]
theorem bS.zo {α:Type} {K:KP} {m:Nat} {R R':α->List U->Prop} {l:List α} {v:U} (h:bS K m R l v) (d:∀x vs,R x vs->R' x vs):bS K m R' l v:=h.mono (KP.le_refl K) d
theorem kq.up {K:KP}:∀{k:Nat} {x:XE} {vs:List U},kq K k x vs->kq K (k+1) x vs
 | 0,x,_,h=>by cases x;exact h.elim
 | k+1,.mk op num name kids,vs,h=>by
  obtain⟨v,rfl,hk⟩:=h;exact⟨v,Z,hk.zo fun x vs h=>kq.up h⟩
end
theorem Je {H_:Type} {enc:y_×j_->H_} {P:q6} {w w':x_} {sp:Nat->Bool} (d:∀r:Nat,r<w.heap.size->w'.heap[r]? =w.heap[r]?) {fuel:Nat} {t:y_} {cs:List j_} {x:w_ H_×List MemPlace}
  (h:DataW.trod enc P w 0 sp true fuel t cs=some x):DataW.trod enc P w' 0 sp true fuel t cs=some x:=by
 refine DataW.trod_carry fuel t cs x h fun p hp=>?_
 have hlt:=DataW.trod_lt fuel t cs x h p hp;cases p with
 | cell b off=>
  show w'.cell? ⟨b,off,none⟩=w.cell? ⟨b,off,none⟩;unfold World.cell?;rw[d b hlt]
 | map b=>exact d b hlt
theorem uE {H_:Type} {enc:y_×j_->H_} {P:q6} {w w':x_} {sp:Nat->Bool} (d:∀r:Nat,r<w.heap.size->w'.heap[r]? =w.heap[r]?):∀{ts:List y_} {vs:List j_} {ds:List (w_ H_)} {ps:List MemPlace},
  DataW.TrodAll enc P w 0 sp true ts vs ds ps->DataW.TrodAll enc P w' 0 sp true ts vs ds ps
 | [],[],[],_,h=>h
 | _::_,_::_,_::_,_,⟨p,q,⟨n,h1⟩,u,e⟩=>⟨p,q,⟨n,Je d h1⟩,uE d u,e⟩
theorem Fe {H_:Type} {enc:y_×j_->H_} {P:q6} (hl:laidOutB P=true) (hm:mapsRowed P=true) (u:((range P.types.size).all fun t=>match P.underlying t with | some (.slice e)=>decide (0<P.cellsOf e) | _=>true)=true) {w w':x_} (hk:kY w w') {ts:List y_} {vs:List j_} {ds:List (w_ H_)} {ps:List MemPlace}
  (hT:(ts.all fun t=>decide (t<P.types.size))=true) (h:DataW.TrodAll enc P w 0 (fun _=>true) true ts vs ds ps) {sp:Nat->Bool} (d:∀p∈ps,sp p.block=true):DataW.TrodAll enc P w' 0 sp true ts vs ds ps:=
 uE hk.same (h.respare (kids_rows hl hm) (slices_full_of P u) (fun t z=>of_decide_eq_true (aE_.1 hT t z)) d)
end Go.Ev
namespace Go.Ev
variable [Env]
variable {G:Cx} {K:KP} {V:aF} {L:Own} {g:XG}
theorem I2 (u:Plain G) (e:cz) (O:F V K L):Ca G K L 227 [.agg<|ints e.ints] V <| .bool (cC e):=by
 refine VV u Tryz.func227 Z<|Vp 2 Z<|kb O (cd Z Z) (fun V b1 O=>?_);refine UQ O 8 [0,0] Z Z<|ky Z (al Z) (fun d=>?_) (fun d=>?_)
 ·refine Vt 8 Z ?_;exact aB Z Z ⟨cB (by unfold cC;simp only[d,ct,cf]),O.pop⟩
 refine Vy O 8 [0,0] Z Z ?_;exact aB Z Z ⟨cB (by unfold cC;simp only[d,ct,cf]),O.pop⟩
theorem vE (u:Plain G) (e:cz) (O:F V K L):Ca G K L 228 [.agg<|ints e.ints] V <| .bool (bl e):=by
 refine VV u Tryz.func228 Z<|Vp 2 Z<|kb O (cd Z Z) (fun V b1 O=>?_);refine UQ O 8 [0,0] Z Z<|ky Z (al Z) (fun d=>?_) (fun d=>?_)
 ·refine Vt 8 Z ?_;exact aB Z Z ⟨cB (by unfold bl;simp only[d,ct,cf]),O.pop⟩
 refine Vy O 8 [0,0] Z Z ?_;exact aB Z Z ⟨cB (by unfold bl;simp only[d,ct,cf]),O.pop⟩
theorem I1 (hG:Plain G) {a b c d:U} (h:gG K g a b c d) (th ix:Int) (O:F V K L):Ca G K L 229 [.agg [a,b,c,d],.agg [.int .i64 th,.int .i64 ix]] V <| .tuple [.agg<|ints (iE<|cX g ⟨th,ix⟩).ints,.bool (cX g ⟨th,ix⟩).isSome]:=by
 have h':=h;obtain⟨hi,Q,hf,ho⟩:=h';refine VV hG Tryz.func229 Z<|Vp 2 Z<|kb O (cd Z Z) (fun V b1 O=>?_);refine kb O (cd Z Z) (fun V b2 O=>?_);refine kb O (WU (cs:=[J,J,J,J,J])) (fun V b3 O=>?_);refine Ua O 9 [0,1] Z Z<|ky Z (al Z) (fun h9=>?_) (fun h9=>?_)
 ·refine UJ 17 Z (I Z (WO (places:=[(0,1),(1,1),(2,1),(3,1),(4,1)]) (zero:=[J,J,J,J,J]) (cs:=[_,_,_,_,_]) Z) Z<|ks O (WZ Z Z Z O.g0 Z) (fun V O=>?_));refine UL 5 Z ?_;exact cq Z Z O.g0 (m:=5) Y Z Z ⟨by rw[vV h9];rfl,O.pop.pop.pop⟩
 refine Wa O 4 [0,1,1,2] Z Z<|I Z (WT Q Z Z Z (e:=90) Z) Z<|V7 2 Z<|ky Z (al Z) (fun w=>?_) (fun w=>?_)
 ·refine UJ 9 Z (I Z (WO (places:=[(0,1),(1,1),(2,1),(3,1),(4,1)]) (zero:=[J,J,J,J,J]) (cs:=[_,_,_,_,_]) Z) Z<|ks O (WZ Z Z Z O.g0 Z) (fun V O=>?_));refine UL 5 Z ?_;exact cq Z Z O.g0 (m:=5) Y Z Z ⟨by rw[Eg w];rfl,O.pop.pop.pop⟩
 refine Vx O 6 [1,1] Z Z<|aG Z (fun C=>?_) (fun C=>?_)
 ·refine Vp 2 Z (I Z (WO (places:=[(0,1),(1,1),(2,1),(3,1),(4,1)]) (zero:=[J,J,J,J,J]) (cs:=[_,_,_,_,_]) Z) Z<|ks O (WZ Z Z Z O.g0 Z) (fun V O=>?_));refine UL 5 Z ?_;exact cq Z Z O.g0 (m:=5) Y Z Z ⟨by rw[rZ C];rfl,O.pop.pop.pop⟩
 obtain⟨tn,rfl⟩:=ij h9;obtain⟨ixn,rfl⟩:=ij C;refine T0 O 8 [0,1] Z Z<|Vr 2 Z<|aG Z (fun z=>?_) (fun z=>?_)
 ·obtain rfl:tn=0:=by rw[eB] at z;simpa using z
  refine UO O 7 [1,1,0,2] Z Z<|I Z (WT hi Z Z Z (e:=2) Z) Z<|Vr 3 Z<|aG Z (fun E=>?_) (fun E=>?_)
  ·refine Vp 2 Z (I Z (WO (places:=[(0,1),(1,1),(2,1),(3,1),(4,1)]) (zero:=[J,J,J,J,J]) (cs:=[_,_,_,_,_]) Z) Z<|ks O (WZ Z Z Z O.g0 Z) (fun V O=>?_));refine Vt 4 Z<|aA<|aA (?_);exact cq Z Z O.g0 (m:=5) Y Z Z ⟨by rw[show cX g _=none from by show(g.init[ixn]?).map _=_;rw[gN_<|oZ E];rfl];rfl,O.pop.pop.pop⟩
  refine UE 3 Z<|aP (l:=zp [0,1,2,3,4,5,6,7,8,9,10]) Y Y<|Wb O 6 [1,1,0,2,1,1] Z Z ?_;obtain⟨a5,A⟩:=da (pf E);refine WK (e:=2) (m:=1) hi A Z Z Z Z Z (fun a9 ap R aq S=>?_);obtain rfl:=S;refine aj Z Z (WV O R Z Z) Z (aj Z Z (WO (places:=[(0,1),(1,1),(2,1),(3,1),(4,1)]) (zero:=[J,J,J,J,J]) (cs:=[_,_,_,_,_]) Z) Z<|gD O Z Z (WZ Z Z Z O.g0 Z) Z (fun V O=>?_));refine⟨aU,?_⟩;refine Vv 4 Z<|aA (?_);exact cq Z Z O.g0 (m:=5) Y Z Z ⟨by rw[show cX g _=some _ from by show(g.init[ixn]?).map _=_;rw[A];rfl];rfl,O.pop.pop.pop⟩
 obtain⟨tm,rfl⟩:=IT z;refine UE 3 Z<|ak<|aP (l:=zp [0,1,2,3,4,5,6,7,8,9,10]) Y Y<|Wb O 7 [1,1,1,2,0,1] Z Z ?_;obtain⟨bb,u⟩:=da (show tm<g.threads.length from by have:=pd w;omega);refine WK (e:=90) (m:=1) Q u Z Z Z Z (cI<|fx (by have:=pd w;have:=Q.cE;omega)) (fun be ar T a0 W=>?_);have hr49':=W;obtain⟨bi,rfl,X⟩:=hr49';refine aj Z Z (WV O T Z Z) Z<|aj Z Z (WT X Z Z Z (e:=45) Z) Z<|Vu 3 Z<|aG Z (fun M=>?_) (fun M=>?_)
 ·refine Vp 2 Z (I Z (WO (places:=[(0,1),(1,1),(2,1),(3,1),(4,1)]) (zero:=[J,J,J,J,J]) (cs:=[_,_,_,_,_]) Z) Z<|ks O (WZ Z Z Z O.g0 Z) (fun V O=>?_));refine UL 5 Z ?_;exact cq Z Z O.g0 (m:=5) Y Z Z ⟨by rw[show cX g _=none from by show(g.threads[tm]?).bind _=_;rw[u];exact gN_<|oZ M];rfl,O.pop.pop.pop⟩
 refine UE 3 Z<|aP (l:=zp [0,1,2,3,4,5,6,7,8,9,10,11,12]) Y Y<|Wb O 5 [1,2,0,1] Z Z<|WK (e:=90) (m:=1) Q u Z Z Z Z (cI<|fx (by have:=pd w;have:=Q.cE;omega)) (fun bj a1 aa a2 ab=>?_);have hr59':=ab;obtain⟨bm,rfl,ac⟩:=hr59';refine aj Z Z (WV O aa Z Z) Z<|Wb O 2 [1,1] Z Z ?_;obtain⟨bq,B⟩:=da (pf M);refine WK (e:=45) (m:=5) ac B Z Z Z Z Z (fun br a3 am a4 ao=>?_);obtain rfl:=ao;refine aj Z Z (WW O am Z Z) Z<|gD O Z Z (WZ Z Z Z O.g0 Z) Z (fun V O=>?_);refine⟨aU,?_⟩;refine Vv 4 Z ?_;exact cq Z Z O.g0 (m:=5) Y Z Z ⟨by rw[show cX g _=some _ from by show(g.threads[tm]?).bind _=_;rw[u];exact B];rfl,O.pop.pop.pop⟩
theorem Dt (R:Plain G) (e:cz) (n:Int) (O:F V K L):Ca G K L 150 [.agg<|ints e.ints,.int .i64 n] V <| .bool (bD e n):=by
 refine VV R Tryz.func150 Z<|Vp 2 Z<|kb O (cd Z Z) (fun V b1 O=>?_);refine Ua O 9 [0,0] Z Z<|ky Z (al Z) (fun M=>?_) (fun M=>?_)
 ·refine UL 24 Z ?_;exact aB Z Z ⟨cB (by unfold bD bC;simp only[M,ct,cf]),O.pop⟩
 refine Wa O 4 [0,0] Z Z<|ky Z (al Z) (fun d=>?_) (fun d=>?_)
 ·refine UL 19 Z ?_;exact aB Z Z ⟨cB (by unfold bD bC;simp only[M,d,ct,cf]),O.pop⟩
 refine Wa O 4 [2,0] Z Z<|ky Z (al Z) (fun w=>?_) (fun w=>?_)
 ·refine UL 14 Z ?_;exact aB Z Z ⟨cB (by unfold bD bC;simp only[M,d,w,ct,cf]),O.pop⟩
 refine Vx O 6 [2,0] Z Z<|aG Z (fun z=>?_) (fun z=>?_)
 ·refine Vq 7 Z ?_;exact aB Z Z ⟨cB (by unfold bD bC;simp only[M,d,w,z,ct,cf]),O.pop⟩
 refine TW 5 Z<|I Z (W2 Z O.g0 Z) Z<|kx (WQ Z Z Z) (I2 R _ O) (fun V O=>?_);refine I Z (df Z) Z<|ky Z (al Z) (fun B=>?_) (fun B=>?_)
 ·refine Wa O 4 [3,0] Z Z<|ky Z (al Z) (fun Q=>?_) (fun Q=>?_)
  ·refine UL 19 Z ?_;exact aB Z Z ⟨cB (by unfold bD bC;simp only[M,d,w,z,B,Q,ct,cf]),O.pop⟩
  refine I Z (W2 Z O.g0 Z) Z<|kx (WQ Z Z Z) (vE R _ O) (fun V O=>?_);refine I Z (df Z) Z<|ky Z (al Z) (fun A=>?_) (fun A=>?_)
  ·refine Vx O 7 [4,0] Z Z<|aG Z (fun E=>?_) (fun E=>?_)
   ·refine Vq 7 Z ?_;exact aB Z Z ⟨cB (by unfold bD bC;simp only[M,d,w,z,B,Q,A,E,ct,cf]),O.pop⟩
   refine T0 O 8 [0,0] Z Z<|Vr 2 Z<|aG Z (fun u=>?_) (fun u=>?_)
   ·refine Vp 2 Z<|Vy O 7 [1,0] Z Z<|aA (?_);exact aB Z Z ⟨cB (by unfold bD bC;simp only[M,d,w,z,B,Q,A,E,u,ct,cf]),O.pop⟩
   refine UP O 7 [1,0] Z Z<|ky Z (al Z) (fun C=>?_) (fun C=>?_)
   ·refine Vy O 9 [1,0] Z Z ?_;exact aB Z Z ⟨cB (by unfold bD bC;simp only[M,d,w,z,B,Q,A,E,u,C,ct,cf]),O.pop⟩
   refine Vt 9 Z ?_;exact aB Z Z ⟨cB (by unfold bD bC;simp only[M,d,w,z,B,Q,A,E,u,C,ct,cf]),O.pop⟩
  refine Vr 8 Z<|T0 O 8 [0,0] Z Z<|Vr 2 Z<|aG Z (fun u=>?_) (fun u=>?_)
  ·refine Vp 2 Z<|Vy O 7 [1,0] Z Z<|aA (?_);exact aB Z Z ⟨cB (by unfold bD bC;simp only[M,d,w,z,B,Q,A,u,ct,cf]),O.pop⟩
  refine UP O 7 [1,0] Z Z<|ky Z (al Z) (fun C=>?_) (fun C=>?_)
  ·refine Vy O 9 [1,0] Z Z ?_;exact aB Z Z ⟨cB (by unfold bD bC;simp only[M,d,w,z,B,Q,A,u,C,ct,cf]),O.pop⟩
  refine Vt 9 Z ?_;exact aB Z Z ⟨cB (by unfold bD bC;simp only[M,d,w,z,B,Q,A,u,C,ct,cf]),O.pop⟩
 refine V7 5 Z<|I Z (W2 Z O.g0 Z) Z<|kx (WQ Z Z Z) (vE R _ O) (fun V O=>?_);refine I Z (df Z) Z<|ky Z (al Z) (fun A=>?_) (fun A=>?_)
 ·refine Vx O 7 [4,0] Z Z<|aG Z (fun E=>?_) (fun E=>?_)
  ·refine Vq 7 Z ?_;exact aB Z Z ⟨cB (by unfold bD bC;simp only[M,d,w,z,B,A,E,ct,cf]),O.pop⟩
  refine T0 O 8 [0,0] Z Z<|Vr 2 Z<|aG Z (fun u=>?_) (fun u=>?_)
  ·refine Vp 2 Z<|Vy O 7 [1,0] Z Z<|aA (?_);exact aB Z Z ⟨cB (by unfold bD bC;simp only[M,d,w,z,B,A,E,u,ct,cf]),O.pop⟩
  refine UP O 7 [1,0] Z Z<|ky Z (al Z) (fun C=>?_) (fun C=>?_)
  ·refine Vy O 9 [1,0] Z Z ?_;exact aB Z Z ⟨cB (by unfold bD bC;simp only[M,d,w,z,B,A,E,u,C,ct,cf]),O.pop⟩
  refine Vt 9 Z ?_;exact aB Z Z ⟨cB (by unfold bD bC;simp only[M,d,w,z,B,A,E,u,C,ct,cf]),O.pop⟩
 refine Vr 8 Z<|T0 O 8 [0,0] Z Z<|Vr 2 Z<|aG Z (fun u=>?_) (fun u=>?_)
 ·refine Vp 2 Z<|Vy O 7 [1,0] Z Z<|aA (?_);exact aB Z Z ⟨cB (by unfold bD bC;simp only[M,d,w,z,B,A,u,ct,cf]),O.pop⟩
 refine UP O 7 [1,0] Z Z<|ky Z (al Z) (fun C=>?_) (fun C=>?_)
 ·refine Vy O 9 [1,0] Z Z ?_;exact aB Z Z ⟨cB (by unfold bD bC;simp only[M,d,w,z,B,A,u,C,ct,cf]),O.pop⟩
 refine Vt 9 Z ?_;exact aB Z Z ⟨cB (by unfold bD bC;simp only[M,d,w,z,B,A,u,C,ct,cf]),O.pop⟩
theorem FV (C:Plain G) {a b c d:U} (h:gG K g a b c d) (th ix fth fix_:Int) (O:F V K L):Ca G K L 151 [.agg [a,b,c,d],.agg [.int .i64 th,.int .i64 ix],.agg [.int .i64 fth,.int .i64 fix_]] V <| .bool (db g ⟨th,ix⟩ ⟨fth,fix_⟩):=by
 have h':=h;obtain⟨hi,ht,hf,ho⟩:=h';refine VV C Tryz.func151 Z<|Vp 2 Z<|kb O (cd Z Z) (fun V b1 O=>?_);refine kb O (cd Z Z) (fun V b2 O=>?_);refine kb O (cd Z Z) (fun V b3 O=>?_);refine UJ 5 Z<|I Z (W1 Z (O.get 2 Z) Z) Z<|I Z (W0 Z O.g1 Z) Z<|kx (WQ Z Z Z) (I1 C h _ _ O) (fun V O=>?_);refine V7 3 Z<|kb O (WU (cs:=[J,J,J,J,J])) (fun V b4 O=>?_);refine ks O (WZ Z Z Z O.g0 Z) (fun V O=>?_);refine TY 6 Z<|I Z (W2 Z O.g0 Z) Z<|kx (WQ Z Z Z) (I2 C _ O) (fun V O=>?_);refine I Z (df Z) Z<|Vr 2 Z<|aG Z (fun u=>?_) (fun u=>?_)
 ·refine Vp 2 Z (I Z (W0 Z O.g1 Z) Z (I Z (WO (places:=[(0,1),(1,1)]) (zero:=[J,J]) (cs:=[_,_]) Z) Z<|I Z (Ad (n:=2) (ca:=[_,_]) (cb:=[_,_]) Y Z Z Z Z) Z<|UL 5 Z ?_));exact aB Z Z ⟨cB (by unfold db;simp only[u,ct,cf]),O.pop.pop.pop.pop⟩
 refine UF 4 Z<|I Z (W1 Z (O.get 3 Z) Z) Z<|I Z (W0 Z O.g1 Z) Z<|kx (WQ Z Z Z) (I1 C h _ _ O) (fun V O=>?_);refine V7 3 Z<|kb O (WU (cs:=[J,J,J,J,J])) (fun V b5 O=>?_);refine ks O (WZ Z Z Z O.g0 Z) (fun V O=>?_);refine UJ 6 Z<|ky Z (al Z) (fun w=>?_) (fun w=>?_)
 ·refine I Z (W0 Z (O.get 2 Z) Z) Z<|I Z (W0 Z (O.get 3 Z) Z) Z<|I Z (Ou (n:=2) (ca:=[_,_]) (cb:=[_,_]) Y Z Z Z Z) Z<|vQ 1 Z<|ky Z (al Z) (fun z=>?_) (fun z=>?_)
  ·refine I Z (W2 Z O.g0 Z) Z<|kx (WQ Z Z Z) (vE C _ O) (fun V O=>?_);refine vQ 1 Z<|ky Z (al Z) (fun A=>?_) (fun A=>?_)
   ·refine Wa O 6 [1,0,1,1] Z Z<|ky Z (al Z) (fun B=>?_) (fun B=>?_)
    ·refine Vy O 10 [4,0,3,1] Z Z ?_;exact aB Z Z ⟨cB (by unfold db;simp only[u,w,z,A,B,ct,cf]),O.pop.pop.pop.pop.pop⟩
    refine Vt 10 Z ?_;exact aB Z Z ⟨cB (by unfold db;simp only[u,w,z,A,B,ct,cf]),O.pop.pop.pop.pop.pop⟩
   refine Vt 17 Z ?_;exact aB Z Z ⟨cB (by unfold db;simp only[u,w,z,A,ct,cf]),O.pop.pop.pop.pop.pop⟩
  refine Vt 21 Z ?_;exact aB Z Z ⟨cB (by unfold db;simp only[u,w,z,ct,cf]),O.pop.pop.pop.pop.pop⟩
 refine Vt 26 Z ?_;exact aB Z Z ⟨cB (by unfold db;simp only[u,w,ct,cf]),O.pop.pop.pop.pop.pop⟩
variable {m1:LM}
theorem sk:F3 Tryz.prog 133 68 3 2:=⟨by kernel_rfl,by kernel_rfl,by kernel_rfl,by kernel_rfl,fun k hk=>by
 match k,hk with
 | [a,b],_=>
  show jv Tryz.prog 68 (.agg<|ints [a,b])=true
  kernel_rfl⟩
theorem O0 {ls:List (List cD)} {m d:LM} {i u:Nat} {l:List cD} {x:cD} (h1:oz ls 0 m1=oz (ls.drop i) i d) (hx:ls[i]? =some l) (w:mB i l d=mB i (l.drop u) m) (z:l[u]? =some x) (h:(gy m x.ints).isSome=false):oz ls 0 m1=none:=by
 rw[h1,cN hx];show(mB i l d).bind _=none;rw[w,cN z];show(bif (gy m x.ints).isSome then _ else none).bind _=none;rw[h];rfl
theorem O1 {ls:List (List cD)} {m d:LM} {i u:Nat} {l:List cD} {x:cD} (h1:oz ls 0 m1=oz (ls.drop i) i d) (hx:ls[i]? =some l) (w:mB i l d=mB i (l.drop u) m) (z:l[u]? =some x) (h:(gy m x.ints).isSome=true) (h':N ((gy m x.ints).getD 0) (.ofNat i)=false):oz ls 0 m1=none:=by
 rw[h1,cN hx];show(mB i l d).bind _=none;rw[w,cN z];show(bif (gy m x.ints).isSome then(bif N ((gy m x.ints).getD 0) (.ofNat i) then _ else none) else none).bind _=none;rw[h,h'];rfl
theorem Du (hG:Plain G) {a b c d:U} (h:gG K g a b c d) (O:F V K L):Ca G K L 152 [.agg [a,b,c,d]] V <| .bool (fy g):=by
 have h':=h;obtain⟨hi,ht,hf,ho⟩:=h';refine VV hG Tryz.func152 Z<|Vp 2 Z<|kb O (cd Z Z) (fun V b1 O=>?_);refine UJ 5 Z<|MM O Z B6 (fun _=>Z) (fun V b2 O=>?_);refine Ua O 8 [1,1] Z Z (I Z (WT ht Z Z Z (e:=90) Z) Z (UH 4 Z (bk (rg 4 4++rg 18 23) (fun j t V=>∃(i:Nat) (es:List eW) (ck:Nat) (m:LM),j+i=g.threads.length/\fQ 2 es m/\qy g.threads 0 []=qy (g.threads.drop i) i m/\t.get 18=some (nI i)/\F V K ((b2,.map es ck)::(b1,.row [a,b,c,d] 27 false)::L)) (g.threads.length) ⟨0,[],0,[],Z,.nil,Z,Z,O⟩ ?_)));clear O;intro j3 t V ar hI;obtain⟨i,es,ck,m,cl,hm,aa,a3,O⟩:=hI;obtain⟨oo,rfl⟩:=ar.q1 a3 Z;refine Vo 6 Z<|aG Z (fun ab=>?_) (fun ab=>?_)
 ·refine Ta 7 Z ?_;obtain⟨E,X,bI⟩:=dH ab;refine WJ (e:=90) (m:=1) ht X Z Z Z Z (fun cn b0 a4 b4 a5=>?_);have hr21':=a5;obtain⟨cp,rfl,z⟩:=hr21';refine I Z (WV O a4 Z Z) Z<|UJ 7 Z<|I Z (WT z Z Z Z (e:=45) Z) Z<|vQ 1 Z ?_;generalize ac:m=m0 at hm aa;clear ac;refine UH 3 Z (bk ([6,7]++rg 25 15) (fun j t V=>∃(u:Nat) (es:List eW) (ck:Nat) (m:LM),j+u=E.length/\fQ 2 es m/\sS i E 0 m0=sS i (E.drop u) u m/\t.get 25=some (nI u)/\F V K ((b2,.map es ck)::(b1,.row [a,b,c,d] 27 false)::L)) (E.length) ⟨0,es,ck,m0,Z,hm,Z,Z,O⟩ ?_);clear O;intro j6 t V ar hI;obtain⟨u,es,ck,m,cr,hm,am,a9,O⟩:=hI;obtain⟨oo,rfl⟩:=ar.q1 a9 Z;refine Vo 6 Z<|aG Z (fun ao=>?_) (fun ao=>?_)
  ·refine Ta 7 Z ?_;obtain⟨ap,M,b5⟩:=dH ao;refine WJ (e:=45) (m:=5) z M Z Z Z Z (fun cv b6 bb b7 be=>?_);obtain rfl:=be;refine I Z (WW O bb Z Z) Z<|kb O (WU (cs:=[J,J,J,J,J])) (fun V b3 O=>?_);refine vQ 1 Z<|ks O (WZ Z Z Z O.g0 Z) (fun V O=>?_);refine UJ 4 Z<|I Z (W2 Z O.g0 Z) Z<|kx (WQ Z Z Z) (vE hG _ O) (fun V O=>?_);refine Vr 2 Z<|aG Z (fun aq=>?_) (fun aq=>?_)
   ·refine V4 5 Z (I Z (WO (places:=[(0,1),(1,1)]) (zero:=[J,J]) (cs:=[_,_]) Z) Z<|Wa O 2 [1,0] Z Z<|JY sk hm O (k:=[_,_]) Z Z Z Z Z Z Z (fun V es ck O hm=>?_));replace hm:=(show fQ 2 es (q8 m [Int.ofNat (i+1),Int.ofNat u] ap.loc) from by rw[<-aX (i:=i) (by have:=ht.cE;omega)];exact hm);refine af<|aD<|V0 4 Z ?_;have O:=O.pop;refine aJ ⟨j6-1,by omega,oF,u+1,es,ck,_,by omega,hm,by rw[am,cN M];show sS i _ (u+1) (zc i m u ap)=_;unfold zc;rw[aq];rfl,cI<|aX (by have:=z.cE;omega),O⟩
   refine aH<|aD<|V0 4 Z ?_;have O:=O.pop;refine aJ ⟨j6-1,by omega,oF,u+1,es,ck,_,by omega,hm,by rw[am,cN M];show sS i _ (u+1) (zc i m u ap)=_;unfold zc;rw[aq];rfl,cI<|aX (by have:=z.cE;omega),O⟩
  refine UG 3 Z<|aR<|aD<|V0 4 Z<|aJ ⟨j3-1,by omega,oF,i+1,es,ck,m,by omega,hm,by rw[aa,cN X];show qy _ (i+1) (sS i E 0 m0)=_;rw[am,ff<|bJ ao];rfl,cI<|aX (by have:=ht.cE;omega),O⟩
 refine UG 3 Z<|aR<|UO O 5 [3,1] Z Z<|I Z (WT ho Z Z Z (e:=84) Z) Z<|vQ 1 Z ?_;have S:qy g.threads 0 []=m:=by rw[aa,ff<|bJ ab];rfl
 generalize bt:m=m1 at hm S;clear bt;refine UH 3 Z (bk ([2,8,9,11,12,13]++rg 44 28) (fun j t V=>∃(i:Nat) (es:List eW) (ck:Nat) (m:LM),j+i=g.order.length/\fQ 2 es m/\oz g.order 0 m1=oz (g.order.drop i) i m/\t.get 44=some (nI i)/\F V K ((b2,.map es ck)::(b1,.row [a,b,c,d] 27 false)::L)) (g.order.length) ⟨0,es,ck,m1,Z,hm,Z,Z,O⟩ ?_);clear O;intro bv t V ar hI;obtain⟨i,es,ck,m,b8,hm,w,bi,O⟩:=hI;obtain⟨oo,rfl⟩:=ar.q1 bi Z;refine Vo 6 Z<|aG Z (fun a0=>?_) (fun a0=>?_)
 ·refine Ta 7 Z ?_;obtain⟨Q,A,b9⟩:=dH a0;refine WJ (e:=84) (m:=1) ho A Z Z Z Z (fun cw ca bj cb bm=>?_);have hr47':=bm;obtain⟨cx,rfl,R⟩:=hr47';refine I Z (WV O bj Z Z) Z<|UJ 7 Z<|I Z (WT R Z Z Z (e:=68) Z) Z<|vQ 1 Z ?_;generalize ac:m=m0 at hm w;clear ac;refine UH 3 Z (bk ([2,11,12,13]++rg 51 20) (fun j t V=>∃(u:Nat) (es:List eW) (ck:Nat) (m:LM),j+u=Q.length/\fQ 2 es m/\mB i Q m0=mB i (Q.drop u) m/\t.get 51=some (nI u)/\F V K ((b2,.map es ck)::(b1,.row [a,b,c,d] 27 false)::L)) (Q.length) ⟨0,es,ck,m0,Z,hm,Z,Z,O⟩ ?_);clear O;intro bw t V ar hI;obtain⟨u,es,ck,m,cc,hm,B,bq,O⟩:=hI;obtain⟨oo,rfl⟩:=ar.q1 bq Z;refine Vo 6 Z<|aG Z (fun a1=>?_) (fun a1=>?_)
  ·refine Ta 6 Z ?_;obtain⟨T,C,ce⟩:=dH a1;refine WJ (e:=68) (m:=2) R C Z Z Z Z (fun c0 ch br ci bs=>?_);obtain rfl:=bs;refine I Z (WW O br Z Z) Z<|kb O (WU (cs:=[J,J])) (fun V b3 O=>?_);refine ks O (WX Z Z Z O.g0 Z) (fun V O=>?_);refine TY 6 Z<|I Z (W0 Z O.g0 Z) Z<|I Z (Oq sk hm O.g1 (k:=[_,_]) Z Z Z) Z<|UJ 10 Z<|I Z (df Z) Z<|ky Z (al Z) (fun W=>?_) (fun W=>?_)
   ·refine Vt 13 Z<|aA<|aK<|aA<|bL<|aK<|aK<|aA<|bL<|aK<|aA (?_);exact aB Z Z ⟨cB (by unfold fy;rw[show oz g.order 0 (qy g.threads 0 [])=none from by rw[S];exact O0 w A B C<|kJ W]),O.pop.pop.pop⟩
   refine Vr 6 Z<|aG Z (fun a2=>?_) (fun a2=>?_)
   ·refine V5 6 Z<|aA<|aK<|aA<|bL<|aK<|aK<|aA<|bL<|aK<|aA (?_);exact aB Z Z ⟨cB (by unfold fy;rw[show oz g.order 0 (qy g.threads 0 [])=none from by rw[S];exact O1 w A B C (ft W)<|de a2]),O.pop.pop.pop⟩
   refine aH<|V4 2 Z<|I Z (W0 Z O.g0 Z) Z<|JX sk hm O (k:=[_,_]) Z Z Z Z Z Z Z Z Z (fun V es O hm=>?_);refine af<|aD<|V0 4 Z ?_;have O:=O.pop;refine aJ ⟨bw-1,by omega,oF,u+1,es,ck,_,by omega,hm,by rw[B,cN C];show(bif (gy m T.ints).isSome then _ else none)=_;rw[show(gy m T.ints).isSome=true from ft W];show(bif N ((gy m T.ints).getD 0) (Int.ofNat i) then _ else none)=_;rw[show N ((gy m T.ints).getD 0) (Int.ofNat i)=true from bT a2];rfl,cI<|aX (by have:=R.cE;omega),O⟩
  refine UG 3 Z<|aR<|aD<|V0 4 Z<|aJ ⟨bv-1,by omega,oF,i+1,es,ck,m,by omega,hm,by rw[w,cN A];show(mB i Q m0).bind _=_;rw[B,ff<|bJ a1];rfl,cI<|aX (by have:=ho.cE;omega),O⟩
 refine UG 3 Z<|aR<|Vp 3 Z<|I Z (Oo sk hm O.g0 Z Z Z Z) Z<|Vt 5 Z ?_;exact aB Z Z ⟨cB (by unfold fy;rw[show oz g.order 0 (qy g.threads 0 [])=some m from by rw[S];exact by rw[w,ff<|bJ a0];rfl]),O.pop.pop⟩
variable {es:List eW} {ck:Nat} {ko mo xo:q_}
section
variable {κ β:Type} [DecidableEq κ]
inductive fC (kf:κ->U) (vf:β->U):List eW->List (κ×β)->Prop
 | nil:fC kf vf [] []
 | cons {e:eW} {k:κ} {v:β} {es:List eW} {m:List (κ×β)}:e.key=kf k->e.val=vf v->fC kf vf es m->fC kf vf (e::es) ((k,v)::m)
def tP:List (κ×β)->κ->Nat->Option (Nat×β)
 | [],_,_=>none
 | (k',v)::m,k,i=>if k=k' then some (i,v) else tP m k (i+1)
def sR:List (κ×β)->κ->β->List (κ×β)
 | [],k,v=>[(k,v)]
 | (k',w)::m,k,v=>if k=k' then(k',v)::m else(k',w)::sR m k v
theorem Es:∀{m:List (κ×β)} {k:κ} {i:Nat},tP m k i=none↔∀x∈m,x.1≠k
 | [],k,i=>by simp[tP]
 | (k',v)::m,k,i=>by
  unfold tP
  by_cases h:k=k'
  ·simp[h]
  rw[if_neg h,Es]
  grind
theorem yT:∀{m:List (κ×β)} {k:κ} {v:β},(∀x∈m,x.1≠k)->sR m k v=m++[(k,v)]
 | [],k,v,_=>rfl
 | (k',w)::m,k,v,h=>by
  unfold sR;rw[if_neg fun e=>h (k',w) (mS_ ..) e.symm,yT fun x hx=>h x (mC_ _ hx)];rfl
theorem H7:∀{m:List (κ×β)} {k k2:κ} {v:β} {i:Nat},(tP (sR m k v) k2 i).map (·.2)=if k2=k then some v else(tP m k2 i).map (·.2)
 | [],k,k2,v,i=>by
  unfold sR tP
  by_cases h:k2=k
  ·simp_all
  rw[if_neg h,if_neg h];rfl
 | (k',w)::m,k,k2,v,i=>by
  unfold sR
  by_cases h:k=k'
  ·rw[if_pos h];subst h;unfold tP
   grind
  rw[if_neg h];unfold tP
  by_cases d:k2=k'
  ·grind
  rw[if_neg d,if_neg d];exact H7
variable {kf:κ->U} {vf:β->U}
theorem fC.len {m:List (κ×β)} (h:fC kf vf es m):es.length=m.length:=by
 induction h with
 | nil=>rfl
 | cons _ _ _ ih=>simp_all
theorem fC.snoc {m:List (κ×β)} (h:fC kf vf es m) {e:eW} {k:κ} {v:β} (u:e.key=kf k) (h3:e.val=vf v):fC kf vf (es++[e]) (m++[(k,v)]):=by
 induction h with
 | nil=>exact .cons u h3 .nil
 | cons b c d ih=>exact .cons b c ih
theorem fC.put {m:List (κ×β)} (h:fC kf vf es m) {k:κ} {v w:β} {i:Nat}:∀{u:Nat},tP m k u=some (i,w)->∃j,i=u+j/\∃e,es[j]? =some e/\e.key=kf k/\∀e':eW,e'.key=kf k->e'.val=vf v->fC kf vf (es.set j e') (sR m k v):=by
 induction h with
 | nil=>intro u hh;cases hh
 | @cons e k' v' es m b c d ih=>
  intro u hh;unfold tP at hh
  by_cases hk:k=k'
  ·rw[if_pos hk] at hh;cases hh;subst hk;exact⟨0,Z,e,Z,b,fun e' h1 A=>by unfold sR;rw[if_pos Z];exact .cons h1 A d⟩
  rw[if_neg hk] at hh;obtain⟨j,rfl,B,h1,A,h3⟩:=ih hh;exact⟨j+1,by omega,B,by simpa using h1,A,fun e' h4 h5=>by unfold sR;rw[if_neg hk];exact .cons b c<|h3 e' h4 h5⟩
structure wC (P:q6) (t kt et:y_) (kf:κ->U) (vf:β->U) (z:β):Prop where
 ty:P.underlying t=some (.map kt et)
 plain:plainKey P kt=true
 shape:∀k,jv P kt (kf k)=true
 eq:∀a b,lf P kt (kf a) (kf b)=some (decide (a=b))
 same:∀a,sameKey (kf a) (kf a)=true
 zero:fH P et=some (vf z)
variable {P:q6} {G:Cx} {ev:q_->Option U} {V:aF} {t kt et:y_} {z:β}
theorem CA (hT:wC P t kt et kf vf z) {k:κ} {m:List (κ×β)} (h:fC kf vf es m):∀i,nX P kt (kf k) es i=some ((tP m k i).map fun x=>(x.1,vf x.2)):=by
 induction h with
 | nil=>intro i;rfl
 | @cons e k' v es m b c d ih=>
  intro i;have hq:lf P kt (kf k) e.key=some (decide (k=k')):=by rw[b];exact hT.eq k k'
  show(match lf P kt (kf k) e.key with
   | some true=>some (some (i,e.val))
   | some false=>nX P kt (kf k) es (i+1)
   | none=>none)=_
  rw[hq];unfold tP
  grind
theorem KL (hT:wC P t kt et kf vf z) {b:Nat} {m:List (κ×β)} (hm:fC kf vf es m) (hb:V.m.get b=some (.map es ck)) {k:κ} (h1:ev mo=some (.map b)) (d:ev ko=some (kf k)):
  dX P G ev V (.lookup t mo ko true)= .val (.tuple [vf (((tP m k 0).map (·.2)).getD z),.bool (tP m k 0).isSome]) V:=by
 have hf:=CA hT (k:=k) hm 0;refine wB Z ?_;simp only[ie,hT.ty,d,h1,hb,hT.plain,hT.shape k,Bool.and_self,cond_true,hf,hT.zero];cases tP m k 0 with
 | none=>rfl
 | some x=>rfl
theorem Ae (hT:wC P t kt et kf vf z) {b:Nat} {m:List (κ×β)} (hm:fC kf vf es m) (hb:V.m.get b=some (.map es ck)) {k:κ} (h1:ev mo=some (.map b)) (d:ev ko=some (kf k)):
  dX P G ev V (.lookup t mo ko false)= .val (vf (((tP m k 0).map (·.2)).getD z)) V:=by
 have hf:=CA hT (k:=k) hm 0;refine wB Z ?_;simp only[ie,hT.ty,d,h1,hb,hT.plain,hT.shape k,Bool.and_self,cond_true,hf,hT.zero];cases tP m k 0 with
 | none=>rfl
 | some x=>rfl
theorem On (hT:wC P t kt et kf vf z) {b:Nat} {m:List (κ×β)} (hm:fC kf vf es m) (hb:V.m.get b=some (.map es ck)) {k:κ} {v:β} (h1:ev mo=some (.map b)) (u:ev ko=some (kf k)) (h3:ev xo=some (vf v)):
  ∃es' ck',dX P G ev V (.mapUpdate t mo ko xo)= .skip (V.setObj b (.map es' ck'))/\fC kf vf es' (sR m k v):=by
 have hf:=CA hT (k:=k) hm 0
 have key:∃es' ck',lN P V t (.map b) (kf k) (vf v)=some (V.setObj b (.map es' ck'))/\fC kf vf es' (sR m k v):=by
  unfold lN;rw[hT.ty];dsimp only;rw[hb];dsimp only;rw[hT.plain,hT.shape k];simp only[Bool.and_self,cond_true];rw[hf];cases d:tP m k 0 with
  | none=>exact⟨_,_,Z,by rw[eD,yT<|Es.1 d];exact hm.snoc Z Z⟩
  | some x=>
   obtain⟨i,w⟩:=x;obtain⟨j,hj,e,he,hk,hp⟩:=hm.put (v:=v) d;rw[nA_] at hj;subst hj
   show∃es' ck',(match nth es i with
     | some e=>bif sameKey e.key (kf k) then some (V.setObj b (.map (wv {key:=kf k,val:=vf v,born:=e.born} es i) ck)) else none
     | none=>none)=some (V.setObj b (.map es' ck'))/\_
   rw[fN,he];dsimp only;rw[hk,hT.same k];exact⟨_,_,Z,by unfold wv;rw[sF];exact hp _ Z Z⟩
 obtain⟨es',ck',h4,h5⟩:=key;refine⟨es',ck',jD Z ?_,h5⟩;simp only[gh,h1,u,h3,h4]
end
section
variable {κ β:Type} [DecidableEq κ] {kf:κ->U} {vf:β->U} {z:β}
variable {P:q6} {G:Cx} {n:Nat} {t:PT U} {V:aF} {K:KP} {L:Own} {Q:Ex->PT U->aF->Prop} {ops:Array z_} {o:z_} {l:List z_}
theorem PC {ty kt et:y_} (hT:wC P ty kt et kf vf z) {b:Nat} {m:List (κ×β)} (hm:fC kf vf es m) (d:F V K ((b,.map es ck)::L)) {k:κ} {v:β} {t':PT U} (hw:bK ops t o=some true) (u:o.op= .mapUpdate ty mo ko xo)
  (h1:bz G t mo=some (.map b)) (w:bz G t ko=some (kf k)) (h3:bz G t xo=some (vf v)) (hp:dG t n o.dst unit=some t')
  (h:∀V' es' ck',F V' K ((b,.map es' ck')::L)->fC kf vf es' (sR m k v)->bP P G ops n l t' V' Q):bP P G ops n (o::l) t V Q:=by
 obtain⟨es',ck',e1,A⟩:=On (G:=G) hT hm (d.get 0 Z) h1 w h3;exact jF hw (by rw[u];exact e1) hp<|h _ _ _ (d.vq _) A
end
variable {pl:Int} {ln tm:Nat}
def Bl (g:XG) (loc:Int):Int:=match(cW g loc).getLast? with | none=>0 | some id=>(iE<|cX g id).write
def wU (k:Nat):List XC->List (List cz)->Option (List Int)
 | [],_=>some []
 | _::_,[]=>none
 | c::l,r::g=>bif N (cm k c r).2 0 then(wU k l g).map fun e=>(cm k c r).1.fin::e else none
def lX (k:Nat) (l:List XC) (g:XG):Option (List Int):=
 bif bC (N (cY g) 0) then none else bif bC (N (.ofNat l.length) (.ofNat g.threads.length)) then none else wU k l g.threads
def Ii (g:XG):List Int->Nat->Bool
 | [],_=>true
 | v::r,i=>bif bC (N v<|Bl g (.ofNat i)) then false else Ii g r (i+1)
def Q6 (k:Nat) (l:List XC) (m:List Int) (g:XG):Option (List Int):=
 match lX k l g with
 | none=>none
 | some e=>bif bC (N (.ofNat m.length) (.ofNat g.init.length)) then none else bif Ii g m 0 then some e else none
def VX (k:Nat) (l:List XC) (m:List Int) (g:XG):Bool:=(Q6 k l m g).isSome
structure XM where
 mem:List Int
 g:XG
structure OF where
 Eb:cz
 fr:cD
 place:Int
 mem:List Int
def JS (n:ux):Int:=bif bC (N n.ask.kind 0) then n.ask.loc else n.event.loc
def BA (n:ux) (m:List Int) (g:XG):OF:=
 bif N n.event.kind 4 then⟨n.event,⟨0,0⟩,0,m⟩ else
 let all:=cW g (JS n)
 let Eb:=bif bC (N n.ask.kind 0) then bQ n.ask ((m[(JS n).toNat]?).getD 0) else n.event
 let fr:=bif bC (N n.ask.kind 0) then(all.getLast?).getD ⟨0,0⟩ else⟨0,0⟩
 bif bC (N Eb.kind 1) then⟨Eb,fr,.ofNat all.length,m.set (JS n).toNat Eb.write⟩ else⟨Eb,fr,0,m⟩
def RC (n:ux) (g:XG):Bool:=bif bC (N n.event.kind 4) then(bif cM (JS n) 0 then true else bC (cM (JS n) (.ofNat g.init.length))) else false
def Pc (k:Nat) (c:XC) (row:List cz) (g:XG):Int:=
 bif bC (N (cm k c row).2 0) then(cm k c row).2 else
 bif bC (N (cm k c row).1.fin 0) then 10 else
 bif bC (cM (.ofNat row.length) 14) then 3 else
 bif RC (cm k c row).1 g then 2 else 0
def U7 (p:OF) (th:Int) (g:XG):Option XM×Int:=
 match vL g th p.Eb p.fr p.place with
 | (some g',e)=>(some ⟨p.mem,g'⟩,e)
 | (none,e)=>(none,e)
def BO (k:Nat) (l:List XC) (r:XM) (t:Nat):Option XM×Int:=
 match l[t]?,r.g.threads[t]? with
 | some c,some row=>bif bC (N (Pc k c row r.g) 0) then(none,Pc k c row r.g) else U7 (BA (cm k c row).1 r.mem r.g) (.ofNat (t+1)) r.g
 | _,_=>(none,2)
structure Rw (k:Nat) (l:List XC) (r:XM):Prop where
 Wx:cY r.g=0
 len:r.g.threads.length=l.length
 mem:r.mem.length=r.g.init.length
 last:∀i:Nat,i<r.g.init.length->r.mem[i]? =some (Bl r.g (.ofNat i))
 fits:∀(t:Nat) (c:XC) (row:List cz),l[t]? =some c->r.g.threads[t]? =some row->kX k c row
theorem yL {k:Nat}:∀{l:List XC} {g:List (List cz)},l.length=g.length->(∀(t:Nat) (c:XC) (row:List cz),l[t]? =some c->g[t]? =some row->kX k c row)->∃e,wU k l g=some e/\e.length=l.length
 | [],_,_,_=>⟨[],Z,Z⟩
 | _::_,[],h,_=>by simp at h
 | c::l,r::g,h,hf=>by
  obtain⟨e,he,hl⟩:=yL (k:=k) (l:=l) (g:=g) (by simpa using h) (fun t c row h1 d=>hf (t+1) c row (by simpa using h1) (by simpa using d));have:=jG.2 (hf 0 c r Z Z);refine⟨(cm k c r).1.fin::e,?_,?_⟩
  ·unfold wU;rw[this,he];rfl
  simp[hl]
theorem EP {g:XG}:∀{m:List Int} {i:Nat},(∀j v,m[j]? =some v->v=Bl g (.ofNat (i+j)))->Ii g m i=true
 | [],_,_=>rfl
 | v::r,i,h=>by
  have h0:=h 0 v Z;rw[add_zero] at h0;unfold Ii;rw[h0,dt];exact EP fun j v hv=>by have:=h (j+1) v (by simpa using hv);rwa[show i+1+j=i+(j+1) by omega]
theorem Rw.is {k:Nat} {l:List XC} {r:XM} (h:Rw k l r):VX k l r.mem r.g=true:=by
 obtain⟨e,he,_⟩:=yL (k:=k) (l:=l) (g:=r.g.threads) h.len.symm h.fits;unfold VX Q6 lX;rw[h.Wx,h.len,dt,he];simp only[show bC (N 0 0)=false from Z,show bC true=false from Z,cond_false];rw[h.mem,EP fun j v hv=>?_]
 ·simp only[dt,bC,cond_true,cond_false];rfl
 have hj:=(gA.1 hv).1;have:=h.last j (by rw[<-h.mem];exact hj)
 simp_all
theorem Mu {g:XG} (d:cY g=0) {r:List cD} (hr:g.order[ln]? =some r):Bl g (.ofNat ln)=(iE<|cX g ((r.getLast?).getD ⟨0,.ofNat ln⟩)).write:=by
 unfold Bl;rw[gq (by rw[d];rfl) hr]
 grind
theorem ns {g:XG} (d:cY g=0) (h:ln<g.init.length):∃r,g.order[ln]? =some r:=da (by rw[(cP.1 d).order];exact h)
theorem OJ {g g':XG} {e:cz} {fr:cD} (h:vL g (.ofNat (tm+1)) e fr pl=(some g',0)):∃row,g.threads[tm]? =some row/\g'.threads=g.threads.set tm (row++[e]):=by
 obtain⟨_,t2,row,frow,ht,h1,_,_,_,rfl,_⟩:=K7 h
 grind [lq]
theorem DJ {a:qD} {v:Int} (h:a.kind=2∨a.kind=4∨a.kind=5∨a.kind=6):(bQ a v).loc=a.loc/\(cC (bQ a v)=true):=by
 refine⟨?_,(jo h).1⟩;unfold bQ;rcases h with h | h | h | h<;>rw[h]
 ·rfl
 ·exact cO (P:=fun e:cz=>e.loc=a.loc) (N v a.a) Z Z
 ·rfl
 rfl
structure Rz (k:Nat) (l:List XC) (r:XM) (t:Nat) (c:XC) (row:List cz) (p:OF) (r':XM):Prop where
 code:l[t]? =some c
 rowAt:r.g.threads[t]? =some row
 err:Pc k c row r.g=0
 mi:p=BA (cm k c row).1 r.mem r.g
 add:vL r.g (.ofNat (t+1)) p.Eb p.fr p.place=(some r'.g,0)
 mem:r'.mem=p.mem
theorem NR {k:Nat} {l:List XC} {r r':XM} {t:Nat} (h:BO k l r t=(some r',0)):∃c row p,Rz k l r t c row p r':=by
 unfold BO at h;cases h1:l[t]? with
 | none=>rw[h1] at h;cases h
 | some c=>
 cases d:r.g.threads[t]? with
 | none=>simp_all
 | some row=>
 rw[h1,d] at h;dsimp only at h;cases h3:N (Pc k c row r.g) 0 with
 | false=>rw[h3] at h;cases h
 | true=>
  rw[h3] at h;have h:U7 (BA (cm k c row).1 r.mem r.g) (.ofNat (t+1)) r.g=(some r',0):=h;unfold U7 at h;cases h4:vL r.g (.ofNat (t+1)) (BA (cm k c row).1 r.mem r.g).Eb (BA (cm k c row).1 r.mem r.g).fr (BA (cm k c row).1 r.mem r.g).place with
  | mk o e=>
   rw[h4] at h;cases o with
   | none=>cases h
   | some g'=>
    simp only[Prod.mk.injEq,oJ_] at h;obtain⟨rfl,rfl⟩:=h;exact⟨c,row,_,h1,d,AT h3,Z,h4,Z⟩
structure UX (k:Nat) (c:XC) (row:List cz) (r:XM) (p:OF):Prop where
 fits:kX k c (row++[p.Eb])
 look:N (cm k c row).1.event.kind 4=false->∃ln:Nat,ln<r.g.init.length/\JS (cm k c row).1= .ofNat ln/\p.Eb.loc= .ofNat ln/\p.Eb.kind≠4
 cases:(p.Eb.kind=4/\p.mem=r.mem/\p.place=0)∨∃ln:Nat,ln<r.g.init.length/\p.Eb.loc= .ofNat ln/\p.Eb.kind≠4/\((bl p.Eb=false/\p.mem=r.mem/\p.place=0)∨(bl p.Eb=true/\p.mem=r.mem.set ln p.Eb.write/\p.place= .ofNat (cW r.g (.ofNat ln)).length))
theorem Px {e:cz} {n:Int} (h:N e.kind n=false):e.kind≠n:=fun hh=>by rw[hh,dt] at h;cases h
def Kx (k:Nat) (l:List XC) (r:XM) (p:Int):Option XM:=
 bif cM p 1 then none else bif cM (.ofNat l.length) p then none else bif N (BO k l r (p.toNat-1)).2 0 then(BO k l r (p.toNat-1)).1 else none
def Nm (k:Nat) (l:List XC) (s:XM×List Int) (p:Int):XM×List Int:=match Kx k l s.1 p with | some r=>(r,s.2++[p]) | none=>s
def Ix (k:Nat) (l:List XC) (s:XM×List Int) (ps:List Int):XM×List Int:=ps.foldl (Nm k l) s
theorem Ky {k:Nat} {l:List XC} {r r':XM} {p:Int} (h:Kx k l r p=some r'):∃t:Nat,p= .ofNat (t+1)/\t<l.length/\BO k l r t=(some r',0):=by
 unfold Kx at h;cases h1:cM p 1 with
 | true=>rw[h1] at h;cases h
 | false=>
 rw[h1] at h;cases d:cM (.ofNat l.length) p with
 | true=>rw[d] at h;cases h
 | false=>
 rw[d] at h;obtain⟨t,rfl⟩:=Hj h1;simp only[cond_false,show(Int.ofNat (t+1)).toNat-1=t from Z] at h;cases h3:N (BO k l r t).2 0 with
 | false=>rw[h3] at h;cases h
 | true=>
  rw[h3] at h;exact⟨t,Z,by have:=bJ d;omega,Prod.ext h<|AT h3⟩
variable {j q:Nat} {c:XC}
structure B9 (c:XC) (out:List Nat) (s:TS):Prop where
 at_:s.at_∈out
 bI:s.bI.length=c.bI.toNat
theorem Hu {k:Nat} {s:TS} (h:(cS k c s).2=false):(cS k c s).1.at_=s.at_:=by
 obtain⟨P,hP⟩:∃P:TS×Bool->Prop,P=fun r=>r.2=false->r.1.at_=s.at_:=⟨_,Z⟩
 have hy:∀r:TS×Bool,r.2=true->P r:=fun r h1=>by simp_all
 have hn:∀r:TS×Bool,r.1.at_=s.at_->P r:=fun r h1=>by simp_all
 have:P (cS k c s):=by
  unfold cS;cases hx:c.ins[s.at_]? with
  | none=>exact hn _ Z
  | some x=>
   dsimp only;unfold gR
   grind
 simp_all
theorem B9.lt {c:XC} {out:List Nat} {s:TS} (h:B9 c out s) (d:gT (eI c) c.ins.length out):s.at_<c.ins.length:=d.lt _ h.at_
theorem B9.step {k:Nat} {out:List Nat} {s:TS} (h:B9 c out s) (d:gT (eI c) c.ins.length out):B9 c out (cS k c s).1:=by
 refine⟨?_,by rw[sG.1];exact h.bI⟩;cases hb:(cS k c s).2 with
 | false=>rw[Hu hb];exact h.at_
 | true=>
  obtain⟨x,hx⟩:=da (h.lt d);obtain⟨q,hq⟩:=gO_ h.at_;obtain⟨q',_,aa⟩:=d.Fb q _ hq _ (qi hx hb)
  grind
theorem GF {k:Nat} {c:XC} {out:List Nat} (d:gT (eI c) c.ins.length out):∀{f:Nat} {s:TS},B9 c out s->B9 c out (v7 k c f s)/\(v7 k c f s).events.length<=s.events.length+f
 | 0,s,h=>⟨h,nR_ _⟩
 | f+1,s,h=>by
  have h1:=h.step (k:=k) d;have h2:=(sG (k:=k) (c:=c) (s:=s)).2;obtain⟨h3,h4⟩:=GF (k:=k) d (f:=f) h1;show B9 c out (bif (cS k c s).2 then v7 k c f (cS k c s).1 else(cS k c s).1)/\(bif (cS k c s).2 then v7 k c f (cS k c s).1 else(cS k c s).1).events.length<=_
  grind
theorem H9 {k:Nat} {s:TS} (hj:1<=j) (h:(cS k c s).2=true):v7 k c j s=v7 k c (j-1) (cS k c s).1:=by
 obtain⟨i,rfl⟩:∃i,j=i+1:=⟨j-1,by omega⟩;show(bif (cS k c s).2 then _ else _)=_;rw[h];rfl
theorem L4 {k:Nat} {s:TS} (hj:1<=j) (h:(cS k c s).2=false):v7 k c j s=(cS k c s).1:=by
 obtain⟨i,rfl⟩:∃i,j=i+1:=⟨j-1,by omega⟩;show(bif (cS k c s).2 then _ else _)=_;rw[h];rfl
theorem BF {k:Nat} {out:List Nat} {s:TS} {x:XI} (d:gT (eI c) c.ins.length out) (hx:c.ins[s.at_]? =some x) (hq:out[q]? =some s.at_) (h:(cS k c s).2=true):∃q',q'<q/\out[q']? =some (cS k c s).1.at_:=d.Fb q _ hq _ (qi hx h)
def qh (c:XC):TS:=⟨0,replicate c.bI.toNat 0,[],0,0,false⟩
theorem FC {out:List Nat} (d:gT (eI c) c.ins.length out):B9 c out (qh c):=⟨d.zero,List.length_replicate ..⟩
theorem Ja {k:Nat} {out:List Nat} (u:ik c=some out) (d:gT (eI c) c.ins.length out):B9 c out (kA k c)/\(kA k c).events.length<=out.length:=by
 obtain⟨h1,w⟩:=GF (k:=k) d (f:=iK c) (FC d);have:iK c=out.length:=by unfold iK;rw[u];rfl
 refine⟨h1,?_⟩;have h3:(qh c).events.length=0:=rfl;rw[h3,this] at w;show(v7 k c (iK c)<|qh c).events.length<=_;rw[this];omega
theorem wF {k:Nat} (hc:fK k c) {out:List Nat} (u:gT (eI c) c.ins.length out) {s:TS} (h:B9 c out s) (w:iH c s) (z:s.asks=true) (v:Int):B9 c out (fm k c s v):=by
 refine⟨?_,by show(s.bI.set _ _).length=_;rw[zg_];exact h.bI⟩;obtain⟨x,hx,hk⟩:=w z;obtain⟨q,hq⟩:=gO_ h.at_
 have:s.at_+1∈eI c s.at_:=by
  unfold eI;rw[hx];dsimp only;unfold iB;rcases hk with hk | hk | hk | hk<;>rw[hk]<;>show s.at_+1∈[s.at_+1]<;>simp
 obtain⟨q',_,d⟩:=u.Fb q _ hq _ this;exact gB_ d
theorem F7 {k:Nat} (u:fK k c) {out:List Nat} (w:ik c=some out) (d:gT (eI c) c.ins.length out) {s:TS} (h:B9 c out s) (z:iH c s) (A:s.asks=true) (v:Int):
  B9 c out (eQ k c s v)/\(eQ k c s v).events.length<=s.events.length+1+out.length/\(eQ k c s v).asked=s.asked+1:=by
 obtain⟨h1,h2⟩:=GF (k:=k) d (f:=iK c) (wF u d h z A v);have hf:iK c=out.length:=by unfold iK;rw[w];rfl
 refine⟨h1,?_,(pc k c (iK c)<|fm k c s v).2⟩
 grind [fm,eQ]
theorem rq {es:List cz} {i:Nat} {e:cz} (h:es[i]? =some e):du (es.take (i+1))=du (es.take i)++(bif cC e then [e.read] else []):=by
 grind [zb_,du]
theorem sy (es:List cz):(du es).length<=es.length:=by grind [du]
theorem NH {k:Nat} {A:List Int} {i:Nat} {v:Int} {s:TS} (h:A[i]? =some v) (d:s.asks=true):kU k c (A.drop i) s=kU k c (A.drop (i+1)) (eQ k c s v):=by
 rw[cN h];show(bif s.asks then _ else _)=_;rw[d];rfl
theorem Qp {k:Nat} {A:List Int} {i:Nat} {v:Int} {s:TS} (h:A[i]? =some v) (d:s.asks=false):kU k c (A.drop i) s=s:=by
 rw[cN h];show(bif s.asks then _ else _)=_;rw[d];rfl
theorem NG {k:Nat} {A:List Int} {i:Nat} {s:TS} (h:A.length<=i):kU k c (A.drop i) s=s:=by rw[ff h];rfl
def JU (n:ux):List U:=ints n.event.ints++ints n.ask.ints++[.int .i64 n.fin]
end Go.Ev
namespace Go.Ev
variable [Env] {α:Type} {K:KP} {e:Nat} {R:α->List U->Prop}
abbrev c6 (x0 x1 x2 x3 x4 x5:Int) (a b c d:U):List U:=[.int .i64 x0,.int .i64 x1,.int .i64 x2,.int .i64 x3,.int .i64 x4,.int .i64 x5,a,b,c,d]
theorem wa {m b n:Nat} (h:K b (.row (replicate n .ax) e false)) (hn:n<=1000000):bS K 1 (RL K m R) (replicate n []) (.slice b 0 n (.known n)):=by
 refine .inr ⟨b,0,_,_,e,false,by rw[List.length_replicate],.inr ⟨_,Z,by simp_all⟩,h,by simp,by grind,fun i x hx=>?_⟩;have hi:i<n:=by grind
 have hx':=eR_ (gB_ hx);subst hx';refine⟨.ax,?_,.inl ⟨Z,Z⟩⟩
 grind
end Go.Ev
namespace Go.Ev
variable [Env] {ops:Array z_} {G:Cx} {cs:List U} {e:Nat} {P:q6} {V:aF}
theorem nL {ev:q_->Option U} {t w n:Nat} {k k':w0} {z:List U} {lo co:q_} (u:P.underlying t=some (.slice e)) (hw:(P.info? e).map (·.bytes)=some w) (A:(fH P e).bind dg=some z)
  (d:((P.info? e).any fun j=>Nat.beq (dK z) j.size && ble 1 j.size)=true) (hl:ev lo=some (.int k (.ofNat n))) (B:ev co=some (.int k' (.ofNat n))) (hn:w*n<=1048576) (aa:n<=1048576):
  gb P ev (.makeSlice t lo co)=some (.row (eC z n) e false,.slice n n):=by
 obtain⟨j,hj,rfl⟩:=oM_.1 hw;rw[hj] at d;simp only[Option.any_some,bA_] at d;simp only[gb,u,hl,B,hj,A];rw[d.1,d.2,show ble n n=true by simp_all,show ble (j.bytes*n) 1048576=true by simp_all,show ble n 1048576=true by simp_all];rfl
theorem vw {t:PT U} {o:z_} {i k b n:Nat} (hi:ops[i]? =some o) (hw:bK ops t o=some true) (hd:o.dst=some k) (hg:t.get k=some (.slice b 0 n (.known n))) (hk:kindOf P o.op= .alloc) (ha:gb P (bz G t) o.op=some (.row cs e false,.slice n n)) (hm:V.m.get b=some (.row cs e false)) (hb:eM.beqL cs cs=true):jP P G ops t V i=true:=by
 unfold jP
 simp_all
theorem yf (n:Nat):eM.beqL (replicate n U.ax) (replicate n U.ax)=true:=by
 induction n with
 | zero=>rfl
 | succ n ih=>rw[List.replicate_succ];exact ba Z ih
end Go.Ev
namespace Go.Ev
variable [Env]
variable {lp:List (Nat×List Nat)} {es:List eW} {N_ ck e:Nat} {ko mo xo:q_} {et kt:y_} {id:cD}
noncomputable instance idDec:DecidableEq cD:=fun _ _=>Classical.propDecidable _
def CI (x:cD):U:=.agg (ints x.ints)
def gN (x:Int):U:=.int .i64 x
theorem L3:wC Tryz.prog 133 68 3 CI gN 0 where
 ty:=by kernel_rfl
 plain:=by kernel_rfl
 shape k:=by
  obtain⟨a,b⟩:=k;show jv Tryz.prog 68 (.agg<|ints [a,b])=true
  kernel_rfl
 eq a b:=by
  obtain⟨fs,hu⟩:=jC sk.ints
  have:lf Tryz.prog 68 (CI a) (CI b)=some (cL a.ints b.ints):=by
   unfold lf CI;rw[hu];exact uG sk.ints Z Z
  rw[this,cD.same];rw[show cL a b=decide (a=b) from by rw[zd_,dF,decide_eq_true_iff]]
 same a:=by
  obtain⟨a,c⟩:=a;show mU (ints [a,c]) (ints [a,c])=true;exact ox _
 zero:=by kernel_rfl
def xw (l:List cD) (m:List (cD×Int)):Prop:=m.length=l.length/\∀n id,l[n]? =some id->m[n]? =some (id,Int.ofNat n)
theorem xw.nil:xw [] []:=⟨Z,fun n id h=>by simp at h⟩
theorem xw.mem {l:List cD} {m:List (cD×Int)} (h:xw l m) {x:cD×Int} (hx:x∈m):x.1∈l:=by
 obtain⟨n,hn⟩:=gO_ hx;have hl:=(gA.1 hn).1;rw[h.1] at hl;obtain⟨id,d⟩:=da hl;have:=h.2 n id d
 grind
theorem xw.put {l:List cD} {m:List (cD×Int)} (h:xw l m) (hn:id∉l):xw (l++[id]) (sR m id (.ofNat l.length)):=by
 rw[yT fun x hx e=>hn (by rw[<-e];exact h.mem hx)];refine⟨by simp[h.1],fun n x hx=>?_⟩;rw[List.getElem?_append] at hx⊢;rw[h.1]
 by_cases hl:n<l.length
 ·rw[if_pos hl] at hx⊢;exact h.2 n x hx
 grind
theorem xw.get {l:List cD} {m:List (cD×Int)} (h:xw l m) (hd:∀(i j:Nat) (x:cD),l[i]? =some x->l[j]? =some x->i=j) {n:Nat} (hn:l[n]? =some id):((tP m id 0).map (·.2)).getD 0= .ofNat n:=by
 have key:∀(m:List (cD×Int)) (k:Nat),(∀(i:Nat) (x:cD×Int),m[i]? =some x->x.1=id->x.2= .ofNat n)->(∃x∈m,x.1=id)->((tP m id k).map (·.2)).getD 0= .ofNat n:=by
  intro m;induction m with
  | nil=>simp_all
  | cons x m ih=>
   intro k h1 h2;obtain⟨a,v⟩:=x;unfold tP
   by_cases e:id=a
   ·rw[if_pos e];exact h1 0 (a,v) Z e.symm
   rw[if_neg e];refine ih (k+1) (fun i x hx=>h1 (i+1) x (by simpa using hx)) ?_
   grind
 refine key m 0 (fun i x hx he=>?_) ⟨_,gB_<|h.2 n id hn,Z⟩;have hl:=(gA.1 hx).1;rw[h.1] at hl;obtain⟨y,d⟩:=da hl;have:=h.2 i y d
 grind
theorem Ie {g:XG} {l:List cD} {r:List cD} (h:gj g=l++id::r):id∉l:=fun hm=>by
 have hp:=Mc (g:=g)
 grind
theorem Ma {g:XG} {i:Nat} (h:i<g.init.length):∃r,gj g=iW g i 0 0++(⟨0,.ofNat i⟩:cD)::r:=by
 obtain⟨d,u⟩:∃d,g.init.length=i+1+d:=⟨g.init.length-(i+1),by omega⟩;unfold gj iW;rw[u,List.range_add,range_succ];refine⟨((range d).map (i+1+ ·)).map (fun i=>(⟨0,.ofNat i⟩:cD))++kr g.threads 0,?_⟩
 simp[kr]
theorem Mb {g:XG} {t k:Nat} {row:List cz} (h:g.threads[t]? =some row) (hk:k<row.length):∃r,gj g=iW g g.init.length t k++(⟨.ofNat (t+1),.ofNat k⟩:cD)::r:=by
 obtain⟨r,hr⟩:=y9 (s:=0) h hk;rw[nA_] at hr;unfold gj iW
 simp_all
section
variable {P:q6} {G:Cx} {K:KP} {n:Nat} {t:PT U} {V:aF} {ops:Array z_} {o:z_} {Q:Ex->PT U->aF->Prop} {κ β:Type} [DecidableEq κ] {kf:κ->U} {vf:β->U} {z:β}
theorem So {ty:y_} (hT:wC P ty kt et kf vf z) {b i:Nat} {m:List (κ×β)} {u:Own} (hm:fC kf vf es m) (A:F V K u) (hb:V.m.get b=some (.map es ck)) (w:cU->Own) (hu:∀o',me b o' u<|w o') {k:κ} {v:β} {t':PT U} (d:ops[i]? =some o) (hw:bK ops t o=some true) (B:o.op= .mapUpdate ty mo ko xo)
  (h1:bz G t mo=some (.map b)) (C:bz G t ko=some (kf k)) (h3:bz G t xo=some (vf v)) (hp:dG t n o.dst unit=some t')
  (h:∀V' es' ck',F V' K (w (.map es' ck'))->fC kf vf es' (sR m k v)->cT P G ops n lp t' V' Q):cT P G ops n ((i,[])::lp) t V Q:=by
 obtain⟨es',ck',e1,E⟩:=On (G:=G) hT hm hb h1 C h3;exact gn A (hu _) d hw (by rw[B];exact e1) hp fun V' O=>⟨aU,h V' es' ck' O E⟩
end
theorem Jc (n:Nat):eM.beqL ((replicate n (0:Int)).map gN) ((replicate n (0:Int)).map gN)=true:=by
 induction n with
 | zero=>rfl
 | succ n ih=>exact ba (cV _ _) ih
theorem uO {K:KP} {l:List Int} {b n:Nat} {ro:Bool} (h:K b (.row (l.map gN) e ro)) (hn:l.length=n) (hle:n<=1000000):bS K 1 g9 l (.slice b 0 n (.known n)):=by
 subst hn;refine .inr ⟨b,0,_,_,e,ro,Z,.inr ⟨_,Z,nR_ _⟩,h,by simp,by omega,fun i x hx=>?_⟩;obtain⟨h1,d⟩:=gA.1 hx;have h3:i<(l.map gN).length:=by simp_all
 show((l.map gN).drop (0+i*1)).take 1= [gN x];rw[nA_,mul_one,zj_ h3,List.getElem_map,d];rfl
theorem IL {i:Nat} {f:Nat->Int} {v:Int}:((range N_).map f).set i v=(range N_).map fun k=>if k=i then v else f k:=by
 refine zf_ fun k=>?_
 grind
section
variable {g:XG}
def lY (g:XG) (i:Nat):List Int:=(range<|H g).map fun k=>if k<i then eH g k else 0
def rm (g:XG) (i:Nat):List Int:=(range<|H g).map fun k=>if k<i then(bif N (eJ g k).br 0 then 0 else-1) else 0
theorem sc {i:Nat}:(lY g i).length=H g:=by unfold lY;simp
theorem vh {i:Nat}:(rm g i).length=H g:=by unfold rm;simp
theorem GB:lY g 0=replicate (H g) 0:=by
 refine zf_ fun k=>?_
 unfold lY
 grind
theorem J6:rm g 0=replicate (H g) 0:=by
 refine zf_ fun k=>?_
 unfold rm
 grind
theorem yR {i:Nat}:(lY g i).set i (eH g i)=lY g (i+1):=by
 unfold lY;rw[IL]
 grind
theorem BC {i:Nat}:(rm g i).set i (bif N (eJ g i).br 0 then 0 else-1)=rm g (i+1):=by
 unfold rm;rw[IL]
 grind
theorem Jx:lY g (H g)=(range<|H g).map (eH g):=by
 unfold lY
 simp_all
theorem Nn:rm g (H g)=gQ g 0 0:=by
 rw[He];unfold rm
 simp_all
theorem GA {i:Nat} {f:Int} (h:eH g i=f):((lY g i).set i (-1)).set i f=lY g (i+1):=by rw[List.set_set,<-h,yR]
theorem yQ {i:Nat} (h:eH g i= -1):(lY g i).set i (-1)=lY g (i+1):=by rw[<-h,yR]
theorem J5 {i:Nat} (h:N (eJ g i).br 0=true):((rm g i).set i (-1)).set i 0=rm g (i+1):=by rw[List.set_set,<-BC,h];rfl
theorem BB {i:Nat} (h:N (eJ g i).br 0=false):(rm g i).set i (-1)=rm g (i+1):=by rw[<-BC,h];rfl
end
end Go.Ev
end
