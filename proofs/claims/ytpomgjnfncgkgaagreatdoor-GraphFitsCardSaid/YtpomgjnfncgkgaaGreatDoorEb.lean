/- Part of the proof: an evaluator of the model's code, rules for walks on it, walks. Without conditions. -/
import Derived.Test.YtpomgjnfncgkgaaGreatDoorEa
import Derived.RangeFuncNested
import Derived.RecoverIn
import Derived.TacticsIn
import Derived.OrdersIn
import Derived.Sort.LoopGhostIn
import Derived.Scope
import Derived.ProofKit
import Derived.LaidSub
set_option linter.unusedSectionVars false
set_option linter.unusedVariables false
set_option linter.unusedSimpArgs false
noncomputable section
namespace Go.Ev
variable [Env]
inductive Ex where
 | normal
 | exit (id:Nat)
 | goto (l:Nat)
 | ret
 | iU (v:AV)
inductive DE where
 | mark (b:Pos)
 | call (f:Nat) (args ca:List AV)
inductive CR where
 | ok (e:Ex) (t:PT AV) (d:List DE) (σ:aD)
 | err (n:Nat)
inductive KR where
 | ret (v:AV) (σ:aD)
 | iU (v:AV) (σ:aD)
 | err (n:Nat)
inductive Kind where
 | pure | read | alloc | ja
def isMap (P:Program) (t:Option TypeId):Bool:=
 match t with
 | some t=>match P.underlying t with | some (.map _ _)=>true | _=>false
 | none=>false
def toStr (P:Program) (src dst:TypeId):Bool:=
 match nF P src,nF P dst with
 | some (.slice _),some .string=>true
 | some (.pointer _),some .unsafePointer=>true
 | some .unsafePointer,some (.pointer _)=>true
 | _,_=>false
def ofStr (P:Program) (src dst:TypeId):Bool:=
 match nF P src,nF P dst with
 | some .string,some (.slice _)=>true
 | _,_=>false
def kindOf (P:Program):Op->Kind
 | .convert src dst _=>bif toStr P src dst then .read else(bif ofStr P src dst then .ja else .pure)
 | .load .. | .lookup ..=>.read
 | .alloc .. | .box .. | .buildSlice .. | .makeSlice .. | .makeMap ..=>.alloc
 | .store .. | .mapUpdate .. | .insert ..=>.ja
 | .call c=>match c.callee with
  | .builtin .len=>bif isMap P c.argTypes[0]? then .read else .pure
  | .builtin .min | .builtin .max | .builtin .cap=>.pure
  | _=>.ja
 | .defer _ | .panic _=>.ja
 | _=>.pure
structure ME where
 f:Nat
 args:List AV
 next:Nat
 l:List (Nat×bQ)
 v:AV
 next':Nat
 l':List (Nat×bQ)
structure Cx where
 gl:Nat
 ov:Nat->Bool
 fk:Nat->Bool
 Hq:Nat->List AV->Option AV
 laid:List (Nat×List AV)
 mem:List ME:=[]
 stop:Nat->List AV->aD->Option Nat:=fun _ _ _=>none
 Gz:Nat->List AV->aD->Option AV:=fun _ _ _=>none
def bo (G:Cx) (t:PT AV):Operand->Option AV
 | .tmp k=>t.get (posOf k)
 | .const v=>ow v
 | .global g=>bif Nat.ble (Nat.succ g) G.gl then some (.ptr (posOf g) 0) else none
 | .func f=>some (.func f [] [])
def rD:Op->Nat
 | .move ..=>1
 | .assign ..=>2
 | .pick ..=>3
 | .alloc ..=>4
 | .box ..=>5
 | .build ..=>6
 | .buildSlice ..=>7
 | .insert ..=>8
 | .load ..=>9
 | .store ..=>10
 | .ready ..=>11
 | .waits ..=>12
 | .nilCheck ..=>13
 | .binOp ..=>14
 | .unOp ..=>15
 | .convert ..=>16
 | .sliceToArrayPointer ..=>17
 | .makeInterface ..=>18
 | .makeFunc ..=>19
 | .makeMap ..=>20
 | .makeChan ..=>21
 | .makeSlice ..=>22
 | .slice ..=>23
 | .fieldAddr ..=>24
 | .field ..=>25
 | .indexAddr ..=>26
 | .index ..=>27
 | .lookup ..=>28
 | .mapUpdate ..=>29
 | .mapEntry ..=>30
 | .entryStore ..=>31
 | .range ..=>32
 | .next ..=>33
 | .entry ..=>34
 | .typeAssert ..=>35
 | .extract ..=>36
 | .call ..=>37
 | .go ..=>38
 | .defer ..=>39
 | .panic ..=>40
 | .send ..=>41
 | .recv ..=>42
 | .select ..=>43
def dJ (P:Program) (G:Cx) (ev:Operand->Option AV) (σ:aD) (op:Op):HR:=
 match kindOf P op with
 | .pure=>match dg P ev op with | some v=>.val v σ | none=>.err (Nat.add 1000 (rD op))
 | .read=>match fV P ev σ op with | some v=>.val v σ | none=>.err (Nat.add 2000 (rD op))
 | .alloc=>match eU P ev op with | some (ob,mk)=>.val (mk.of σ.next) (σ.alloc ob) | none=>.err (Nat.add 3000 (rD op))
 | .ja=>gQ P G.ov ev σ op
def cO (t:PT AV) (n:Nat) (dst:Option Nat) (v:AV):Option (PT AV):=
 match dst with
 | none=>some t
 | some k=>bif Nat.ble (Nat.succ k) n then some (t.put (some v) (posOf k)) else none
def unit:AV:=.tuple []
def bu (ops:Array Oper) (t:PT AV) (o:Oper):Option Bool:=
 match o.guard with
 | none=>some true
 | some (j,want)=>match(ops[j]?).bind (·.dst) with
  | some k=>match t.get (posOf k) with
   | some (.bool b)=>some (bif b then want else(bif want then false else true))
   | some (.tuple _)=>some false
   | _=>none
  | none=>some false
abbrev iE:=Code->PT AV->Nat->List DE->Option Pos->aD->CR
def yB (n:Nat) (ks:List Nat) (vs:List AV) (t:PT AV):Option (PT AV):=
 List.rec (motive:=fun _=>List AV->PT AV->Option (PT AV)) (fun vs t=>List.rec (motive:=fun _=>Option (PT AV)) (some t) (fun _ _ _=>none) vs)
  (fun k _ ih vs t=>List.rec (motive:=fun _=>Option (PT AV)) none (fun v r _=>match cO t n (some k) v with | some t'=>ih r t' | none=>none) vs) ks vs t
def sn:Ex->Option Code
 | .normal=>none
 | .ret=>some .ret
 | .exit id=>some (.exit id)
 | .goto g=>some (.goto g)
 | .iU _=>none
def z8:Ex->Bool
 | .iU _=>true
 | _=>false
def rN:Ex->LoopState
 | .normal=>.ready
 | _=>.done
def y6:Ex->Bool
 | .normal=>true
 | _=>false
def nz (ih:iE) (l:Pos) (args:List AV) (σ:aD):KR:=
 match σ.m.get l with
 | some (.loop _ _ tmps n params assign body _)=>
  match yB n params args tmps with
  | some t=>match ih assign t n [] (some l) σ with
   | .ok .normal t [] σ₁=>match σ₁.m.get l with
    | some (.loop .ready p tmps n' params assign body' df)=>
     match ih body t n [] (some l) (σ₁.setObj l (.loop .busy p tmps n' params assign body' df)) with
     | .ok e _ [] σ₂=>bif z8 e then .err 67 else match σ₂.m.get l with
      | some (.loop _ _ tmps n params assign body df)=>.ret (.bool (y6 e)) (σ₂.setObj l (.loop (rN e) (sn e) tmps n params assign body df))
      | _=>.err 61
     | .err k=>.err k
     | _=>.err 62
    | _=>.err 63
   | .err k=>.err k
   | _=>.err 64
  | none=>.err 65
 | _=>.err 66
def pN (n:Nat) (args:List AV):Option (PT AV):=
 List.rec (motive:=fun _=>Nat->PT AV->Option (PT AV)) (fun _ t=>some t) (fun v _ ih k t=>match cO t n (some k) v with | some t'=>ih (Nat.succ k) t' | none=>none) args 0 .leaf
def fZ (P:Program) (t:PT AV) (σ:aD):ResultVar->Option AV
 | .tmp k=>t.get (posOf k)
 | .cell k ty=>match t.get (posOf k) with
  | some (.ptr b off)=>match σ.m.get b with
   | some (.row cells _ _)=>match dE P ty with
    | some (some n)=>bif Nat.ble (off+n) (cD cells) then some (.agg (takeN (dy cells off) n)) else none
    | some none=>nth cells off
    | none=>none
   | _=>none
  | _=>none
def dX (P:Program) (fn:Func) (t:PT AV) (σ:aD):Option AV:=
 match cF (fZ P t σ) fn.results.toList with
 | some [v]=>some v
 | some vs=>some (.tuple vs)
 | none=>none
inductive Md where
 | ret
 | iU (v:AV)
 | HP (v:AV)
inductive SR where
 | ok (e:Ex) (t:PT AV) (d:List DE) (md:Md) (σ:aD)
 | err (n:Nat)
def isRec (o:Oper):Bool:=
 match o.op with
 | .call c=>match c.callee with
  | .builtin .recover=>true
  | _=>false
 | _=>false
def IZ:Md->AV
 | .iU v=>v
 | _=>.nilIface
def Mc:Md->Md
 | .iU v=>.HP v
 | m=>m
def tO:Md->Md
 | .HP _=>.ret
 | m=>m
def Kr (P:Program) (G:Cx) (ops:Array Oper) (n:Nat) (o:Oper) (t:PT AV) (md:Md) (σ:aD) (k:PT AV->Md->aD->SR):SR:=
 match bu ops t o with
 | some true=>bif isRec o then(match cO t n o.dst (IZ md) with | some t'=>k t' (Mc md) σ | none=>.err 80) else
  match dJ P G (bo G t) σ o.op with
  | .val v σ'=>(match cO t n o.dst v with | some t'=>k t' md σ' | none=>.err 80)
  | .skip σ'=>(match cO t n o.dst unit with | some t'=>k t' md σ' | none=>.err 80)
  | _=>.err 201
 | some false=>match cO t n o.dst unit with | some t'=>k t' md σ | none=>.err 84
 | none=>.err 85
def IQ (P:Program) (G:Cx) (ops:Array Oper) (n:Nat) (l:List Oper):PT AV->Md->aD->SR:=
 List.rec (motive:=fun _=>PT AV->Md->aD->SR) (fun t md σ=>.ok .normal t [] md σ)
  (fun o _ k t md σ=>Kr P G ops n o t md σ k) l
def xg (md:Md) (r:CR):SR:=
 match r with
 | .ok e t d σ=>.ok e t d md σ
 | .err n=>.err n
def Gq (ops:List Oper):Bool:=ops.any isRec
def Lx (r:SR) (k:PT AV->Md->aD->SR):SR:=
 match r with
 | .ok .normal t [] md σ=>k t md σ
 | .ok .normal _ _ _ _=>.err 203
 | r=>r
def zF (P:Program) (G:Cx) (ih:iE) (fuel:Nat):Code->PT AV->Nat->Md->aD->SR:=
 Nat.rec (motive:=fun _=>Code->PT AV->Nat->Md->aD->SR) (fun _ _ _ _ _=>.err 202)
  (fun _ rc c t n md σ=>match c with
   | .seq a b=>Lx (rc a t n md σ) (fun t md σ=>rc b t n md σ)
   | .region id ops draw=>bif draw then xg md (ih (.region id ops draw) t n [] none σ) else bif Gq ops.toList then IQ P G ops n ops.toList t md σ else xg md (ih (.region id ops draw) t n [] none σ)
   | c=>xg md (ih c t n [] none σ)) fuel
def J4 (P:Program) (fn:Func) (r:SR):Option (Md×aD):=
 match r with
 | .ok .normal t [] md σ=>match dX P fn t σ with | some _=>some (tO md,σ) | none=>none
 | .ok .ret t [] md σ=>match dX P fn t σ with | some _=>some (tO md,σ) | none=>none
 | _=>none
def vM (P:Program) (G:Cx) (ih:iE) (f:Nat) (args:List AV) (md:Md) (σ:aD):Option (Md×aD):=
 match P.funcs[f]? with
 | some fn=>match fn.body,pN fn.ntmps args with
  | some c,some t=>J4 P fn (zF P G ih 30 c t fn.ntmps md σ)
  | _,_=>none
 | none=>none
def ss (P:Program) (G:Cx) (ih:iE) (d:List DE):Md->aD->Option (Md×aD):=
 List.rec (motive:=fun _=>Md->aD->Option (Md×aD)) (fun md σ=>some (md,σ))
  (fun e _ k md σ=>match e with
   | .mark b=>match σ.m.get b with
    | some .mark=>k md (σ.setObj b .dead)
    | _=>none
   | .call f args ca=>bif uV P f then(match vM P G ih f (fD args ca) md σ with
    | some (md',σ')=>k md' σ'
    | none=>none) else none) d
def ya (P:Program) (G:Cx) (ih:iE) (fn:Func) (md:Md) (t:PT AV) (d:List DE) (σ:aD):KR:=
 match ss P G ih d md σ with
 | some (.ret,σ)=>match dX P fn t σ with | some v=>.ret v σ | none=>.err 70
 | some (.iU v,σ)=>.iU v σ
 | _=>.err 71
def mH (P:Program) (G:Cx) (ih:iE) (f:Nat) (args:List AV) (σ:aD):KR:=
 match P.funcs[f]? with
 | some fn=>match fn.body,pN fn.ntmps args with
  | some c,some t=>match ih c t fn.ntmps [] none σ with
   | .ok .normal t d σ=>ya P G ih fn .ret t d σ
   | .ok .ret t d σ=>ya P G ih fn .ret t d σ
   | .ok (.iU v) t d σ=>ya P G ih fn (.iU v) t d σ
   | .err k=>.err k
   | _=>.err 72
  | _,_=>.err 73
 | none=>.err 74
def sB (r:KR):KR:=
 match r with
 | .iU _ _=>.err 69
 | r=>r
def mM:AV->Bool
 | .bool _ | .int _ _ | .str _ | .nilPtr | .aK | .gU | .nilFunc | .nilIface=>true
 | _=>false
def ep (l:List AV):Bool:=List.rec (motive:=fun _=>Bool) true (fun v _ r=>bif mM v then r else false) l
def yc (x y:AV):Bool:=
 match x,y with
 | .bool a,.bool b=>bif a then b else(bif b then false else true)
 | .int j a,.int k b=>q7 j k && bq a b
 | .str a,.str b=>fF a b
 | .nilPtr,.nilPtr=>true
 | .aK,.aK=>true
 | .gU,.gU=>true
 | .nilFunc,.nilFunc=>true
 | .nilIface,.nilIface=>true
 | _,_=>false
def kB (xs ys:List AV):Bool:=
 List.rec (motive:=fun _=>List AV->Bool) (fun ys=>List.rec (motive:=fun _=>Bool) true (fun _ _ _=>false) ys)
  (fun x _ ih ys=>List.rec (motive:=fun _=>Bool) false (fun y r _=>bif yc x y then ih r else false) ys) xs ys
def DC (n:Nat) (v:AV):List AV:=Nat.rec (motive:=fun _=>List AV) [] (fun _ l=>v::l) n
def fa (σ:aD) (b:Pos) (o:bQ) (vb:Pos) (o':bQ):aD:={next:=σ.next,m:=(PT.leaf.put (some o) b).put (some o') vb}
def tI (vb:Pos) (vc:List AV) (ve e sz:Nat) (r:KR) (ok:rZ->Nat->Bool):Option (Nat×List AV):=
 match r with
 | .ret (.slice b1 o1 n1 c1) σ1=>
  match σ1.m.get b1,σ1.m.get vb with
  | some (.row cs1 e1 false),some (.row vc1 ve1 false)=>
   bif ok c1 n1 && ((bif rL b1 vb then false else true) && (kB vc vc1 && (Nat.beq ve ve1 && (Nat.beq e e1 && (Nat.ble 1 n1 && (Nat.ble (o1+n1*sz) (cD cs1) && ep (takeN (dy cs1 o1) (n1*sz)))))))) then
    some (n1,takeN (dy cs1 o1) (n1*sz))
   else none
  | _,_=>none
 | _=>none
def Ca (sz:Nat) (c:rZ) (_:Nat):Bool:=
 match c with
 | .upto s=>Nat.beq s sz
 | _=>false
def yl (sz:Nat) (c:rZ) (n:Nat):Bool:=
 match c with
 | .least a s=>Nat.beq s sz && Nat.ble n a
 | _=>false
def Gk (P:Program) (G:Cx) (ih:iE) (f:Nat) (args:List AV) (σ:aD):KR:=
 match args with
 | [.slice b off n (.upto sz),i,.slice vb voff m (.known mc)]=>
  match σ.m.get b,σ.m.get vb with
  | some (.row cells e false),some (.row vc ve false)=>
   bif (bif rL b vb then false else true) && (Nat.ble 1 n && (Nat.beq m 1 && (mM i && (ep vc && Nat.ble (off+n*sz) (cD cells))))) then
    match tI vb vc ve e sz (mH P G ih f [.slice b off n (.known n),i,.slice vb voff m (.known mc)] (fa σ b (.row cells e false) vb (.row vc ve false))) (Ca sz),
     tI vb vc ve e sz (mH P G ih f [.slice b off n (.least (Nat.succ n) sz),i,.slice vb voff m (.known mc)] (fa σ b (.row (fD (takeN cells (off+n*sz)) (DC sz .any)) e false) vb (.row vc ve false))) (yl sz) with
    | some (n1,r1),some (n2,r2)=>bif Nat.beq n1 n2 && kB r1 r2 then .ret (.slice σ.next 0 n1 (.upto sz)) ((σ.drop b).alloc (.row r1 e false)) else .err 75
    | _,_=>.err 76
   else .err 77
  | _,_=>.err 78
 | _=>mH P G ih f args σ
def jE (gl:Nat) (σ:aD) (l:List (Nat×List AV)):Bool:=
 List.rec (motive:=fun _=>Bool) true (fun x _ r=>bif Nat.ble (Nat.succ x.1) gl then(match σ.m.get x.1 with
  | some (.row cells _ true)=>bif ep x.2 then(bif kB cells x.2 then r else false) else false
  | _=>false) else false) l
def dQ (x y:AV):Bool:=
 match x,y with
 | .agg xs,.agg ys=>beqL xs ys
 | x,y=>nW x y
where
 beqP (p q:Pos):Bool:=Nat.beq p q
 beqC (c d:rZ):Bool:=
  match c,d with
  | .known a,.known b=>Nat.beq a b
  | .upto a,.upto b=>Nat.beq a b
  | _,_=>false
 nW (x y:AV):Bool:=
  match x,y with
  | .bool a,.bool b=>bif a then b else(bif b then false else true)
  | .int j a,.int k b=>q7 j k && bq a b
  | .str a,.str b=>fF a b
  | .nilPtr,.nilPtr=>true
  | .tok a,.tok b=>Nat.beq a b
  | .ptr b o,.ptr b' o'=>beqP b b' && Nat.beq o o'
  | .aK,.aK=>true
  | .slice b o l c,.slice b' o' l' c'=>beqP b b' && Nat.beq o o' && Nat.beq l l' && beqC c c'
  | .gU,.gU=>true
  | .map b,.map b'=>beqP b b'
  | .nilFunc,.nilFunc=>true
  | .nilIface,.nilIface=>true
  | .func f [] [],.func g [] []=>Nat.beq f g
  | .func f [] [.ptr b o],.func g [] [.ptr b' o']=>Nat.beq f g && beqP b b' && Nat.beq o o'
  | _,_=>false
 beqL (xs ys:List AV):Bool:=
  List.rec (motive:=fun _=>List AV->Bool) (fun ys=>List.rec (motive:=fun _=>Bool) true (fun _ _ _=>false) ys)
   (fun x _ ih ys=>List.rec (motive:=fun _=>Bool) false (fun y r _=>bif nW x y then ih r else false) ys) xs ys
def FF (xs ys:List AV):Bool:=
 List.rec (motive:=fun _=>List AV->Bool) (fun ys=>List.rec (motive:=fun _=>Bool) true (fun _ _ _=>false) ys)
  (fun x _ ih ys=>List.rec (motive:=fun _=>Bool) false (fun y r _=>bif dQ x y then ih r else false) ys) xs ys
def BV (xs ys:List eJ):Bool:=
 List.rec (motive:=fun _=>List eJ->Bool) (fun ys=>List.rec (motive:=fun _=>Bool) true (fun _ _ _=>false) ys)
  (fun x _ ih ys=>List.rec (motive:=fun _=>Bool) false (fun y r _=>bif dQ x.key y.key then(bif dQ x.val y.val then(bif Nat.beq x.born y.born then ih r else false) else false) else false) ys) xs ys
def Da (x y:bQ):Bool:=
 match x,y with
 | .row c e false,.row c' e' false=>bif Nat.beq e e' then dQ.beqL c c' else false
 | .own c e,.own c' e'=>bif Nat.beq e e' then dQ.beqL c c' else false
 | .map es k,.map es' k'=>bif Nat.beq k k' then BV es es' else false
 | .iter s p,.iter s' p'=>bif Nat.beq p p' then fF s s' else false
 | .mark,.mark=>true
 | .dead,.dead=>true
 | _,_=>false
def KE (l:List (Nat×bQ)) (σ:aD):Bool:=
 List.rec (motive:=fun _=>Bool) true (fun x _ r=>match σ.m.get x.1 with | some o=>bif Da o x.2 then r else false | none=>false) l
def Gt (gl:Nat) (laid:List (Nat×List AV)) (e:ME) (f:Nat) (args:List AV) (σ:aD):Bool:=
 bif Nat.beq e.f f then(bif FF args e.args then(bif Nat.beq σ.next e.next then(bif jE gl σ laid then KE e.l σ else false) else false) else false) else false
def w0 (gl:Nat) (laid:List (Nat×List AV)) (mem:List ME) (f:Nat) (args:List AV) (σ:aD):Option ME:=
 List.rec (motive:=fun _=>Option ME) none (fun e _ r=>bif Gt gl laid e f args σ then some e else r) mem
def x8 (l:List (Nat×bQ)) (m:PT bQ):PT bQ:=List.rec (motive:=fun _=>PT bQ) m (fun x _ r=>r.put none x.1) l
def tN (l:List (Nat×bQ)) (m:PT bQ):PT bQ:=List.rec (motive:=fun _=>PT bQ) m (fun x _ r=>r.put (some x.2) x.1) l
def Ac (σ:aD) (e:ME):aD:={next:=e.next',m:=tN e.l' (x8 e.l σ.m)}
def Ce (l:List (Nat×List AV)) (E:Nat->TypeId):PT bQ:=l.foldl (fun m x=>m.put (some (.row x.2 (E x.1) true)) (posOf x.1)) .leaf
def pP (laid:List (Nat×List AV)) (E:Nat->TypeId) (e:ME):aD:={next:=e.next,m:=tN e.l (Ce laid E)}
def Mv (gl:Nat) (laid:List (Nat×List AV)) (e:ME):Bool:=
 Nat.ble gl e.next && (Nat.ble e.next e.next' && ((laid.all fun x=>Nat.blt x.1 gl) && ((e.l.all fun x=>Nat.ble gl x.1 && (Nat.blt x.1 e.next && !x.2.ro)) && (e.l'.all fun x=>Nat.ble gl x.1 && (Nat.blt x.1 e.next' && (!x.2.ro && (Nat.ble e.next x.1 || e.l.any fun y=>Nat.beq y.1 x.1)))))))
def atEnd (args:List AV):Bool:=
 match args with
 | [.slice _ _ n _,.int _ (.ofNat j),_]=>Nat.beq j n
 | _=>false
def Gl (P:Program) (G:Cx) (ih:iE) (f:Nat) (args:List AV) (σ:aD):KR:=bif atEnd args then mH P G ih f args σ else Gk P G ih f args σ
def kU (P:Program) (G:Cx) (ih:iE) (f:Nat) (args:List AV) (σ:aD):KR:=
 match G.Gz f args σ with
 | some v=>bif mM v then .ret v σ else .err 78
 | none=>match G.Hq f args with
 | some v=>bif ep args && (mM v && jE G.gl σ G.laid) then .ret v σ else .err 79
 | none=>match w0 G.gl G.laid G.mem f args σ with
  | some e=>.ret e.v (Ac σ e)
  | none=>match G.stop f args σ with
   | some c=>.err c
   | none=>bif G.fk f then sB (Gl P G ih f args σ) else mH P G ih f args σ
def kA (P:Program) (G:Cx) (ih:iE) (r:HR):KR:=
 match r with
 | .val v σ=>.ret v σ
 | .skip σ=>.ret unit σ
 | .enter f args σ=>kU P G ih f args σ
 | .round l args σ=>nz ih l args σ
 | .iU v σ=>.iU v σ
 | .err e=>.err e
def IS (pn:Bool) (v:AV) (t:PT AV) (σ:aD):CR:=bif pn then .ok (.iU v) t [] σ else .err 69
def iw (P:Program) (G:Cx) (ih:iE) (pn:Bool) (ops:Array Oper) (n:Nat) (o:Oper) (t:PT AV) (σ:aD) (k:PT AV->aD->CR):CR:=
 match bu ops t o with
 | some true=>match kA P G ih (dJ P G (bo G t) σ o.op) with
  | .ret v σ'=>match cO t n o.dst v with | some t'=>k t' σ' | none=>.err 80
  | .iU v σ'=>IS pn v t σ'
  | .err e=>.err e
 | some false=>match cO t n o.dst unit with | some t'=>k t' σ | none=>.err 84
 | none=>.err 85
def rE (P:Program) (G:Cx) (ih:iE) (ops:Array Oper) (n:Nat) (d:List DE) (l:List Oper):PT AV->aD->CR:=
 List.rec (motive:=fun _=>PT AV->aD->CR) (fun t σ=>.ok .normal t d σ)
  (fun o _ k t σ=>iw P G ih true ops n o t σ k) l
def pL (A:Array Nat) (i j:Nat):Bool:=(A.getD i 0).testBit j
def waits (ops:Array Oper) (i j:Nat):Bool:=((ops[i]?).map fun o=>o.after.any fun e=>Region.binds .any e && e.on == j).getD false
def B7:Kind->Bool
 | .ja=>true
 | _=>false
def sw:Kind->Bool
 | .read | .alloc=>true
 | _=>false
def jb (P:Program) (ops:Array Oper) (i:Nat):Bool:=match(ops[i]?).map fun o=>kindOf P o.op with | some k=>B7 k | none=>false
def fA (P:Program) (ops:Array Oper) (i:Nat):Bool:=match(ops[i]?).map fun o=>kindOf P o.op with | some k=>sw k | none=>false
def slotsOf (ops:Array Oper) (o:Oper):List Nat:=
 (o.op.operands.toList.filterMap fun | .tmp k=>some k | _=>none)++(match o.guard with | some (j,_)=>((ops[j]?).bind (·.dst)).toList | none=>[])
def eB (ops:Array Oper) (i:Nat):Option Nat:=(ops[i]?).bind (·.dst)
def bit (i:Nat):Nat:=Nat.shiftLeft 1 i
def hasB (m i:Nat):Bool:=Nat.beq (Nat.land (Nat.shiftRight m i) 1) 1
def wD (m k:Nat):Bool:=Nat.beq (Nat.land m k) m
def mq (l:List Nat):Nat:=List.rec (motive:=fun _=>Nat) 0 (fun i _ r=>Nat.lor (bit i) r) l
structure Row where
 w:Nat
 h:Bool
 k:Bool
 d:Option Nat
 dm:Nat
 s:Nat
def vK (P:Program) (ops:Array Oper) (o:Oper):Row:=
 {w:=mq (o.after.toList.filterMap fun e=>if Region.binds .any e=true then some e.on else none),h:=B7 (kindOf P o.op),k:=sw (kindOf P o.op),d:=o.dst,dm:=mq o.dst.toList,s:=mq (slotsOf ops o)}
structure RA where
 r:Row
 a:Nat
def vn (L:List RA):Nat->Nat:=
 List.rec (motive:=fun _=>Nat->Nat) (fun _=>0) (fun x _ ih w=>Nat.lor (Bool.rec (motive:=fun _=>Nat) 0 x.a (Nat.beq (Nat.land w 1) 1)) (ih (Nat.shiftRight w 1))) L
def Ha (rows:List Row):List RA->List RA:=
 List.rec (motive:=fun _=>List RA->List RA) (fun L=>L) (fun r _ ih L=>ih (fD L [⟨r,Nat.lor r.w (vn L r.w)⟩])) rows
def hZ (P:Program) (ops:Array Oper):List RA:=Ha (wy (vK P ops) ops.toList) []
def allI {α:Type} (f:Nat->α->Bool) (l:List α):Nat->Bool:=List.rec (motive:=fun _=>Nat->Bool) (fun _=>true) (fun x _ ih i=>Bool.rec (motive:=fun _=>Bool) false (ih (Nat.succ i)) (f i x)) l
def Jy {α:Type} (f:Nat->α->Bool) (l:List α):Nat->Option Nat:=List.rec (motive:=fun _=>Nat->Option Nat) (fun _=>none) (fun x _ ih i=>Bool.rec (motive:=fun _=>Option Nat) (ih (Nat.succ i)) (some i) (f i x)) l
def Lh {α:Type} (f:Nat->α->Bool) (l:List α):Nat->List Nat:=List.rec (motive:=fun _=>Nat->List Nat) (fun _=>[]) (fun x _ ih i=>Bool.rec (motive:=fun _=>List Nat) (ih (Nat.succ i)) (i::ih (Nat.succ i)) (f i x)) l
def Ar (i:Nat) (x:RA) (j:Nat) (y:RA):Bool:=
 Option.rec (motive:=fun _=>Bool) true (fun k=>bif (bif hasB x.r.dm k then Nat.beq j i else true) then(bif hasB x.r.s k then(bif hasB x.a j then true else(bif x.r.k then false else(bif Nat.beq j i then true else hasB y.a i))) else true) else false) y.r.d
def G5 (i:Nat) (x:RA) (j:Nat) (y:RA):Bool:=Bool.rec (motive:=fun _=>Bool) (Ar i x j y) true (Nat.beq (Nat.land (Nat.lor x.r.dm x.r.s) y.r.dm) 0)
def Hj (L:List RA) (n:Nat):Bool:=
 allI (fun i x=>bif Nat.blt x.r.w (bit n) then(bif (bif x.r.k then x.r.d.isSome else true) then(bif wD x.a (Nat.lor x.r.w (vn L x.r.w)) then allI (G5 i x) L 0 else false) else false) else false) L 0
def Ls (L:List RA) (fuel:Nat):Nat->List (Nat×List Nat):=
 Nat.rec (motive:=fun _=>Nat->List (Nat×List Nat)) (fun _=>[])
  (fun _ ih D=>Option.rec (motive:=fun _=>List (Nat×List Nat))
   (Option.rec (motive:=fun _=>List (Nat×List Nat)) [] (fun i=>(i,Option.rec (motive:=fun _=>List Nat) [] (fun x=>Lh (fun j y=>bif hasB D j then(bif y.r.k then(bif hasB x.a j then false else true) else false) else false) L 0) (nth L i))::ih (Nat.lor D (bit i)))
    (Jy (fun i x=>Bool.rec (motive:=fun _=>Bool) (wD x.r.w D) false (hasB D i)) L 0))
   (fun i=>(i,[])::ih (Nat.lor D (bit i))) (Jy (fun i x=>Bool.rec (motive:=fun _=>Bool) (Bool.rec (motive:=fun _=>Bool) (wD x.r.w D) false x.r.h) false (hasB D i)) L 0)) fuel
def Gr (L:List RA) (i:Nat) (rc:List Nat) (D:Nat) (x:RA):Bool:=
 bif hasB D i then false else(bif wD x.r.w D then(bif x.r.h then allI (fun j y=>bif hasB D j then(bif hasB x.a j then true else(bif y.r.k then hasB (mq rc) j else true)) else(bif Nat.beq j i then true else(bif wD y.r.w D then false else true))) L 0 else true) else false)
def BF (L:List RA) (n:Nat) (p:List (Nat×List Nat)):Nat->Bool:=
 List.rec (motive:=fun _=>Nat->Bool) (fun D=>Nat.beq D (Nat.sub (bit n) 1))
  (fun p _ ih D=>Option.rec (motive:=fun _=>Bool) false (fun x=>bif Gr L p.1 p.2 D x then ih (Nat.lor D (bit p.1)) else false) (nth L p.1)) p
def sE (P:Program) (ops:Array Oper):List (Nat×List Nat):=Ls (hZ P ops) ops.size 0
def qv (P:Program) (ops:Array Oper):Bool:=bif Hj (hZ P ops) ops.size then BF (hZ P ops) ops.size (sE P ops) 0 else false
def ie (P:Program) (G:Cx) (ops:Array Oper) (t:PT AV) (σ:aD) (i:Nat):Bool:=
 match ops[i]? with
 | some o=>match bu ops t o with
  | some true=>match o.dst with
   | some k=>match t.get (posOf k) with
    | some v=>match kindOf P o.op with
     | .read=>match fV P (bo G t) σ o.op with | some u=>dQ u v | none=>false
     | .alloc=>match eU P (bo G t) o.op,v with
      | some (.row cs e false,.ptr),.ptr b 0=>match σ.m.get b with | some (.row cs' e' false)=>Nat.beq e e' && dQ.beqL cs cs' | _=>false
      | some (.row cs e false,.slice n c),.slice b 0 n' (.known c')=>match σ.m.get b with | some (.row cs' e' false)=>Nat.beq e e' && dQ.beqL cs cs' && Nat.beq n n' && Nat.beq c c' | _=>false
      | _,_=>false
     | _=>false
    | none=>false
   | none=>false
  | some false=>true
  | none=>false
 | none=>false
def cM (P:Program) (G:Cx) (ops:Array Oper) (t:PT AV) (σ:aD) (l:List Nat):Bool:=
 List.rec (motive:=fun _=>Bool) true (fun i _ r=>bif ie P G ops t σ i then r else false) l
def jh (P:Program) (G:Cx) (ih:iE) (ops:Array Oper) (n:Nat) (d:List DE) (l:List (Nat×List Nat)):PT AV->aD->CR:=
 List.rec (motive:=fun _=>PT AV->aD->CR) (fun t σ=>.ok .normal t d σ)
  (fun p _ k t σ=>match ops[p.1]? with
   | some o=>iw P G ih false ops n o t σ (fun t' σ'=>bif cM P G ops t' σ' p.2 then k t' σ' else .err 86)
   | none=>.err 87) l
def s5 (P:Program) (G:Cx) (ih:iE) (ops:Array Oper) (n:Nat) (d:List DE) (t:PT AV) (σ:aD):CR:=
 bif qv P ops then jh P G ih ops n d (sE P ops) t σ else .err 88
def wO (c:Option AV) (x y:CR):CR:=
 match c with
 | some (.bool true)=>x
 | some (.bool false)=>y
 | _=>.err 90
def wB (r:CR) (k:PT AV->List DE->aD->CR):CR:=
 match r with
 | .ok .normal t d σ=>k t d σ
 | r=>r
def r8 (id:Nat) (r:CR):CR:=
 match r with
 | .ok (.exit j) t d σ=>bif Nat.beq j id then .ok .normal t d σ else .ok (.exit j) t d σ
 | r=>r
def Cz (r:CR):CR:=
 match r with
 | .ok (.goto _) _ _ _=>.err 98
 | r=>r
def yt (ro:Option Pos) (d:List DE) (σ:aD):Option (Pos×aD×List DE):=
 match ro with
 | none=>some (σ.next,σ.alloc .mark,DE.mark σ.next::d)
 | some l=>match σ.m.get l with
  | some (.loop _ _ _ _ _ _ _ df)=>some (df,σ,d)
  | _=>none
def FE (ih:iE) (l:Pos) (t:PT AV) (n:Nat) (d:List DE) (ro:Option Pos) (σ:aD):CR:=
 match σ.m.get l with
 | some (.loop st p tmps n' ps as bd df)=>
  match st with
  | .busy=>.err 91
  | _=>match p with
   | none=>.ok .normal t d (σ.setObj l (.loop .exhausted none tmps n' ps as bd df))
   | some c=>ih c t n d ro (σ.setObj l (.loop .exhausted (some c) tmps n' ps as bd df))
 | _=>.err 92
def yC (P:Program) (G:Cx) (ih:iE) (g:Operand) (ps:Array Tmp) (assign body:Code) (t:PT AV) (n:Nat) (d:List DE) (ro:Option Pos) (σ:aD):CR:=
 match yt ro d σ with
 | some (df,σ₁,d₁)=>
  match bo G t g with
  | some (.func f fi ca)=>bif uV P f then
    match kU P G ih f (fD fi (.yield σ₁.next::ca)) (σ₁.alloc (.loop .ready none t n ps.toList assign body df)) with
    | .ret _ σ₃=>FE ih σ₁.next t n d₁ ro σ₃
    | .iU _ _=>.err 89
    | .err e=>.err e
   else .err 93
  | _=>.err 94
 | none=>.err 95
def Df (o:Oper):Bool:=
 match o.op with
 | .defer _=>true
 | _=>false
def ml (ops:List Oper):Bool:=ops.any Df
def BO (P:Program) (G:Cx) (t:PT AV) (o:Op):Option DE:=
 match o with
 | .defer c=>match c.callee with
  | .value f=>match bo G t f,wW (bo G t) c.args.toList with
   | some (.func g fi ca),some args=>some (.call g (fD fi args) ca)
   | _,_=>none
  | _=>none
 | _=>none
def Kq (P:Program) (G:Cx) (ops:Array Oper) (n:Nat) (o:Oper) (d:List DE) (t:PT AV) (σ:aD) (k:List DE->PT AV->aD->CR):CR:=
 match bu ops t o with
 | some true=>bif Df o then(match BO P G t o.op with
   | some e=>match cO t n o.dst unit with | some t'=>k (e::d) t' σ | none=>.err 80
   | none=>.err 97) else
  match dJ P G (bo G t) σ o.op with
  | .val v σ'=>(match cO t n o.dst v with | some t'=>k d t' σ' | none=>.err 80)
  | .skip σ'=>(match cO t n o.dst unit with | some t'=>k d t' σ' | none=>.err 80)
  | .err e=>.err e
  | _=>.err 204
 | some false=>match cO t n o.dst unit with | some t'=>k d t' σ | none=>.err 84
 | none=>.err 85
def Ku (P:Program) (G:Cx) (ops:Array Oper) (n:Nat) (l:List Oper):List DE->PT AV->aD->CR:=
 List.rec (motive:=fun _=>List DE->PT AV->aD->CR) (fun d t σ=>.ok .normal t d σ)
  (fun o _ k d t σ=>Kq P G ops n o d t σ k) l
def BN (P:Program) (G:Cx) (ops:Array Oper) (n:Nat) (ro:Option Pos) (d:List DE) (t:PT AV) (σ:aD):CR:=
 match ro with
 | none=>Ku P G ops n ops.toList d t σ
 | some _=>.err 96
def wu (d:List DE) (r:CR):CR:=
 match r with
 | .ok (.iU v) t _ σ=>.ok (.iU v) t d σ
 | r=>r
def DJ (P:Program) (G:Cx) (ih:iE) (c:Code) (t:PT AV) (n:Nat) (d:List DE) (ro:Option Pos) (σ:aD):CR:=
 match c with
 | .skip | .label _=>.ok .normal t d σ
 | .region _ ops draw=>bif draw then s5 P G ih ops n d t σ else bif ml ops.toList then BN P G ops n ro d t σ else wu d (rE P G ih ops n d ops.toList t σ)
 | .seq a b=>wB (ih a t n d ro σ) (fun t d σ=>ih b t n d ro σ)
 | .cond c a b=>wO (bo G t c) (ih a t n d ro σ) (ih b t n d ro σ)
 | .block id b=>r8 id (ih b t n d ro σ)
 | .scope b=>Cz (ih b t n d ro σ)
 | .loop b=>wB (ih b t n d ro σ) (fun t d σ=>ih (.loop b) t n d ro σ)
 | .exit id=>.ok (.exit id) t d σ
 | .ret=>.ok .ret t d σ
 | .rangeFunc g ps assign body=>yC P G ih g ps assign body t n d ro σ
 | _=>.err 99
def ec (P:Program) (G:Cx) (fuel:Nat):iE:=Nat.rec (motive:=fun _=>iE) (fun _ _ _ _ _ _=>.err 100) (fun _ ih=>DJ P G ih) fuel
def uC (P:Program) (G:Cx) (fuel:Nat) (f:Nat) (args:List AV) (σ:aD):KR:=kU P G (ec P G fuel) f args σ
def jq:Option Nat->Fence
 | none=>Fence.wide
 | some l=>Fence.wide.inRound l
theorem iy (rl:Option Nat) (f:FuncId):(jq rl).fn f:=by cases rl<;>trivial
theorem B0 (rl:Option Nat):(jq rl).depth=none:=by cases rl<;>rfl
theorem uD (rl:Option Nat):(jq rl).round=rl:=by cases rl<;>rfl
theorem pb (rl:Option Nat) (m:Nat):(jq rl).depth.isSome=true->1<=m:=by rw[B0];intro h;cases h
theorem qw {m:Nat} {P:Program} {f:FuncId} {args:Array Value} {w:World} {R:Ending->World->Prop} (rl:Option Nat) (h:CallsIn Fence.wide m P f args w R):CallsIn (jq rl) m P f args w R:=by
 cases rl with
 | none=>exact h
 | some l=>exact h.inRound l
theorem Is (rl:Option Nat) (l:Nat):(jq rl).inRound l=jq (some l):=by cases rl<;>rfl
def DR (ρ:cz):List DE->List Deferred->Prop
 | [],ds=>ds= []
 | .mark b::d,ds=>∃l r,ρ b=some l/\ds= {target:=.collected l.cZ,args:= #[]}::r/\DR ρ d r
 | .call f args ca::d,ds=>∃(xs cs:Array Value) (r:List Deferred),ds= {target:=.fn (.func f) cs,args:=xs}::r/\cG ρ args xs.toList/\cG ρ ca cs.toList/\DR ρ d r
theorem DR.mono {ρ ρ':cz} (h:ρ.le ρ'):∀{d:List DE} {ds:List Deferred},DR ρ d ds->DR ρ' d ds
 | [],ds,hd=>hd
 | .mark b::d,ds,hd=>let ⟨l,r,h1,h2,h3⟩:=hd;⟨l,r,h _ _ h1,h2,DR.mono h h3⟩
 | .call f args ca::d,ds,hd=>let ⟨xs,cs,r,h1,h2,h3,h4⟩:=hd;⟨xs,cs,r,h1,cG.mono h _ _ h2,cG.mono h _ _ h3,DR.mono h h4⟩
def Ip:Ex->Exit
 | .normal=>.normal
 | .exit i=>.exit i
 | .goto i=>.goto i
 | .ret=>.ret
 | .iU _=>.normal
def LH (ρ:cz):Ex->Exit->Prop
 | .iU v,E=>∃x,E= .panic [{v:=x,recovered:=false}]/\VR ρ v x
 | .normal,E=>E= .normal
 | .exit i,E=>E= .exit i
 | .goto i,E=>E= .goto i
 | .ret,E=>E= .ret
def Qx (Q:Exit->Act->World->Prop) (ρ:cz) (e:Ex) (a:Act) (w:World):Prop:=∀E,LH ρ e E->Q E a w
def KW (ρ:cz):KR->Ending->Prop
 | .ret v _,e=>∃x,e= .returned x/\VR ρ v x
 | .iU v _,e=>∃x,e= .panicked [{v:=x,recovered:=false}]/\VR ρ v x
 | .err _,_=>False
def KR.heap:KR->aD
 | .ret _ σ=>σ
 | .iU _ σ=>σ
 | .err _=>⟨0,.leaf⟩
def RO (ρ:cz):Option Pos->Option Nat->Prop
 | none,none=>True
 | some b,some l=>∃loc,ρ b=some loc/\loc.cZ=l
 | _,_=>False
theorem RO.mono {ρ ρ':cz} (h:ρ.le ρ'):∀{ro:Option Pos} {rl:Option Nat},RO ρ ro rl->RO ρ' ro rl
 | none,none,_=>trivial
 | some _,some _,⟨loc,h1,h2⟩=>⟨loc,h _ _ h1,h2⟩
def GR (ρ:cz) (G:Cx):Prop:=∀g,g<G.gl->∃c,ρ (posOf g)=some ⟨g,0,c⟩
theorem GR.mono {ρ ρ':cz} {G:Cx} (h:ρ.le ρ') (hg:GR ρ G):GR ρ' G:=fun g hlt=>let ⟨c,hc⟩:=hg g hlt;⟨c,h _ _ hc⟩
structure js (w w':World):Prop where
 os:w'.os=w.os
 out:w'.output=w.output
 tape:w'.tape=w.tape
 size:w.heap.size<=w'.heap.size
 same:∀r:Nat,r<w.heap.size->w'.heap[r]?=w.heap[r]?
def jZ (w:World) (x:Nat×List AV):Prop:=∃c e fr,w.heap[x.1]?=some (.cells c e fr)/\x.2.length<=c.size/\∀(i:Nat) (v:AV),x.2[i]?=some v->∃y,c[i]?=some y/\VR (fun _=>none) v y
def CV (P:Program) (gl:Nat) (laid:List (Nat×List AV)) (f:Nat) (args:List AV) (v:AV):Prop:=
 ∀(w:World) (xs:Array Value),gl<=w.heap.size->Fy w->(∀x∈laid,jZ w x)->cG (fun _=>none) args xs.toList->Calls P f xs w fun e w'=>∃x,e= .returned x/\VR (fun _=>none) v x/\js w w'
def Ml (P:Program) (gl:Nat) (laid:List (Nat×List AV)) (e:ME):Prop:=
 Mv gl laid e=true/\∀(E:Nat->TypeId) (ρ:cz) (w:World) (xs:Array Value) (rl:Option Nat) (m:Nat) (R:Ending->World->Prop),Inv ρ (pP laid E e) w->(∀g,g<gl->∃c,ρ (posOf g)=some ⟨g,0,c⟩)->cG ρ e.args xs.toList->
  (∀(ρ':cz) (σr:aD) (w':World) (x:Value),(∀y∈e.l',σr.m.get y.1=some y.2)->σr.next=e.next'->Inv ρ' σr w'->dZ ρ (pP laid E e) w ρ' σr w'->VR ρ' e.v x->R (.returned x) w')->
  CallsIn (jq rl) m P e.f xs w R
structure ze (P:Program) (G:Cx):Prop where
 ov:∀g,G.ov g=true->m8 P g
 Hq:∀f args v,G.Hq f args=some v->CV P G.gl G.laid f args v
 mem:∀e∈G.mem,Ml P G.gl G.laid e
 Gz:∀f args σ v,G.Gz f args σ=some v->∀(ρ:cz) (w:World) (xs:Array Value),Inv ρ σ w->cG ρ args xs.toList->Calls P f xs w fun e w'=>∃x ρ',e= .returned x/\VR ρ' v x/\Inv ρ' σ w'/\dZ ρ σ w ρ' σ w'
structure Sound (P:Program) (G:Cx) (ih:iE):Prop where
 cx:ze P G
 run:∀(c:Code) (t:PT AV) (n:Nat) (d:List DE) (ro:Option Pos) (σ:aD) (e:Ex) (t':PT AV) (d':List DE) (σ':aD),ih c t n d ro σ= .ok e t' d' σ'->
  ∀(ρ:cz) (w:World) (a:Act) (rl:Option Nat) (m:Nat) (Q:Exit->Act->World->Prop),Inv ρ σ w->GR ρ G->TR ρ t n a.tmps->DR ρ d a.defers->RO ρ ro rl->
   (∀(ρ':cz) (w':World) (a':Act),Inv ρ' σ' w'->dZ ρ σ w ρ' σ' w'->TR ρ' t' n a'.tmps->DR ρ' d' a'.defers->Qx Q ρ' e a' w')->c.wpIn (jq rl) m P Q a w
section
variable {P:Program} {G:Cx} {ρ:cz} {σ:aD} {w:World}
theorem TR.set {t:PT AV} {n k:Nat} {tmps:Array Value} {v:AV} {x:Value} (h:TR ρ t n tmps) (hk:k<n) (hv:VR ρ v x):TR ρ (t.put (some v) (posOf k)) n (tmps.setIfInBounds k x):=by
 refine⟨by simpa using h.1,fun j u hu=>?_⟩
 by_cases e:j=k
 ·subst e;rw[PT.cY] at hu;cases hu;refine⟨hk,?_⟩;have:j<tmps.size:=by rw[h.1];exact hk
  simpa [Array.getD_eq_getD_getElem?,this] using hv
 rw[PT.cV _ _ _ _ (fun h'=>e (pq h'))] at hu;obtain⟨h1,h2⟩:=h.2 j u hu;refine⟨h1,?_⟩
 have:(tmps.setIfInBounds k x).getD j undef=tmps.getD j undef:=by
  simp only[Array.getD_eq_getD_getElem?,Array.getElem?_setIfInBounds];rw[if_neg (fun h'=>e h'.symm)]
 rw[this];exact h2
theorem pr {t t':PT AV} {n k:Nat} {v:AV} (h:cO t n (some k) v=some t'):k<n/\t'=t.put (some v) (posOf k):=by
 unfold cO at h;simp only[a0] at h;split at h
 ·rename_i hk;cases h;exact⟨Nat.le_of_ble_eq_true hk,rfl⟩
 cases h
theorem TR.put {t t':PT AV} {n:Nat} {a:Act} {dst:Option Tmp} {v:AV} {x:Value} (h:TR ρ t n a.tmps) (hp:cO t n dst v=some t') (hv:VR ρ v x):TR ρ t' n (a.put dst x).tmps:=by
 cases dst with
 | none=>cases hp;exact h
 | some k=>
  obtain⟨hk,rfl⟩:=pr hp;exact h.set hk hv
theorem put_defers (a:Act) (dst:Option Tmp) (x:Value):(a.put dst x).defers=a.defers:=by cases dst<;>rfl
theorem km:VR ρ unit undef:=by simp only[unit,VR];exact⟨_,rfl,cG.nil⟩
theorem fY {t:PT AV} {n:Nat} {a:Act} {x:Operand} {v:AV} (hg:GR ρ G) (ht:TR ρ t n a.tmps) (h:bo G t x=some v):VR ρ v (a.eval x):=by
 cases x with
 | tmp k=>exact(ht.2 k v h).2
 | const c=>exact ox h
 | global g=>
  simp only[bo,a0] at h;split at h
  ·rename_i hlt;cases h;obtain⟨c,hc⟩:=hg g (Nat.le_of_ble_eq_true hlt);simp only[VR];exact⟨_,hc,by simp[Act.eval]⟩
  cases h
 | func f=>
  cases h;simp only[VR];exact⟨_,_,rfl,cG.nil,cG.nil⟩
theorem wE {t:PT AV} {n:Nat} {a:Act} (op:Op) (hg:GR ρ G) (ht:TR ρ t n a.tmps):ER ρ (bo G t) a.eval op:=fun _ _ _ hv=>fY hg ht hv
theorem xH {ops:Array Oper} {t:PT AV} {o:Oper} {b:Bool} {tmps:Array Value} (h:bu ops t o=some b)
  (hs:∀j want k,o.guard=some (j,want)->(ops[j]?).bind (·.dst)=some k->∀v,t.get (posOf k)=some v->k<tmps.size/\VR ρ v (tmps.getD k undef)):
  Region.wanted o (yielded ops tmps)=b:=by
 unfold bu at h;unfold Region.wanted;cases hg:o.guard with
 | none=>rw[hg] at h;cases h;rfl
 | some jw=>
  obtain⟨j,want⟩:=jw;rw[hg] at h;dsimp only at h⊢;cases hk:(ops[j]?).bind (·.dst) with
  | none=>
   rw[hk] at h;cases h;simp[yielded,hk]
  | some k=>
   rw[hk] at h;dsimp only at h;cases hv:t.get (posOf k) with
   | none=>rw[hv] at h;cases h
   | some v=>
    rw[hv] at h;obtain⟨hlt,hr⟩:=hs j want k hg hk v hv
    have hget:tmps[k]?=some (tmps.getD k undef):=by
     rw[Array.getD_eq_getD_getElem?,aG_ hlt];rfl
    generalize tmps.getD k undef=x at hr hget;cases v with
    | bool c=>
     simp only[VR] at hr;subst hr;simp only[yielded,hk,Option.bind_some,hget];cases h;cases c<;>cases want<;>rfl
    | tuple cs=>
     simp only[VR] at hr;obtain⟨y,rfl,_⟩:=hr;cases h;simp[yielded,hk,hget]
    | _=>cases h
theorem nG {ops:Array Oper} {t:PT AV} {o:Oper} {b:Bool} {n:Nat} {tmps:Array Value} (h:bu ops t o=some b) (ht:TR ρ t n tmps):Region.wanted o (yielded ops tmps)=b:=
 xH h fun _ _ k _ _ v hv=>⟨by rw[ht.1];exact(ht.2 k v hv).1,(ht.2 k v hv).2⟩
theorem rI {n:Nat}:∀(ks:List Nat) (vs:List AV) (t t':PT AV) (tmps:Array Value) (xs:List Value),yB n ks vs t=some t'->TR ρ t n tmps->cG ρ vs xs->
  ks.length=xs.length/\TR ρ t' n ((ks.zip xs).foldl (fun tmps (t,a)=>tmps.setIfInBounds t a) tmps)
 | [],[],t,t',tmps,xs,h,ht,hv=>by
  rw[hv.ee];have h':some t=some t':=h;cases h';exact⟨rfl,ht⟩
 | [],_::_,_,_,_,_,h,_,_=>by have h':(none:Option (PT AV))=some _:=h;cases h'
 | _::_,[],_,_,_,_,h,_,_=>by have h':(none:Option (PT AV))=some _:=h;cases h'
 | k::ks,v::vs,t,t',tmps,xs,h,ht,hv=>by
  obtain⟨x,r,rfl,h1,h2⟩:=hv.cons_inv;have h':(match cO t n (some k) v with | some t'=>yB n ks vs t' | none=>none)=some t':=h;cases hp:cO t n (some k) v with
  | none=>rw[hp] at h';cases h'
  | some t₁=>
   rw[hp] at h';obtain⟨hk,rfl⟩:=pr hp;obtain⟨g1,g2⟩:=rI ks vs _ t' (tmps.setIfInBounds k x) r h' (ht.set hk h1) h2;exact⟨by simp[g1],g2⟩
theorem uc {n:Nat} {args:List AV} {xs:Array Value} {t:PT AV} (h:pN n args=some t) (hv:cG ρ args xs.toList):TR ρ t n (xs++Array.replicate (n-xs.size) undef):=by
 have key:∀(args:List AV) (ys:List Value) (k:Nat) (t t':PT AV),(List.rec (motive:=fun _=>Nat->PT AV->Option (PT AV)) (fun _ t=>some t) (fun v _ ih k t=>match cO t n (some k) v with | some t'=>ih (Nat.succ k) t' | none=>none) args:Nat->PT AV->Option (PT AV)) k t=some t'->
   cG ρ args ys->(∀j v,t.get (posOf j)=some v->j<k/\j<n)->
   (∀j v,t'.get (posOf j)=some v->j<n/\((j<k/\t.get (posOf j)=some v)∨∃y,k<=j/\ys[j-k]?=some y/\VR ρ v y))/\(args= []∨k+args.length<=n):=by
  intro args;induction args with
  | nil=>
   intro ys k t t' h hv ht;have h':some t=some t':=h;cases h';exact⟨fun j v hj=>⟨(ht j v hj).2,.inl ⟨(ht j v hj).1,hj⟩⟩,.inl rfl⟩
  | cons v args ih=>
   intro ys k t t' h hv ht;obtain⟨x,r,rfl,h1,h2⟩:=hv.cons_inv;dsimp only at h;cases hp:cO t n (some k) v with
   | none=>rw[hp] at h;cases h
   | some t₁=>
    rw[hp] at h;obtain⟨hk,rfl⟩:=pr hp
    obtain⟨g1,g2⟩:=ih r (k+1) _ t' h h2 (fun j u hj=>by
     by_cases e:j=k
     ·subst e;exact⟨by omega,hk⟩
     rw[PT.cV _ _ _ _ (fun h'=>e (pq h'))] at hj;have:=ht j u hj;exact⟨by omega,this.2⟩)
    refine⟨fun j u hj=>?_,.inr ?_⟩
    ·obtain⟨q1,q2⟩:=g1 j u hj;refine⟨q1,?_⟩;rcases q2 with ⟨hlt,hg⟩ | ⟨y,hle,hy,hr⟩
     ·by_cases e:j=k
      ·subst e;rw[PT.cY] at hg;cases hg;exact .inr ⟨x,nR_ _,by simp,h1⟩
      rw[PT.cV _ _ _ _ (fun h'=>e (pq h'))] at hg;exact .inl ⟨by omega,hg⟩
     refine .inr ⟨y,by omega,?_,hr⟩;have:j-k=(j-(k+1))+1:=by omega
     rw[this];simpa using hy
    rcases g2 with rfl | g2
    ·simp;omega
    simp;omega
 obtain⟨g1,g2⟩:=key args xs.toList 0 .leaf t h hv (fun j v hj=>by rw[PT.ld] at hj;cases hj);have hlen:=hv.length
 have hle:xs.size<=n:=by
  rcases g2 with rfl | g2
  ·simp at hlen;rw[hlen];simp
  simp at hlen;omega
 refine⟨by simp;omega,fun j v hj=>?_⟩;obtain⟨q1,q2⟩:=g1 j v hj;refine⟨q1,?_⟩;rcases q2 with ⟨hlt,_⟩ | ⟨y,_,hy,hr⟩
 ·omega
 rw[Nat.sub_zero] at hy;have hjx:j<xs.size:=by simpa using (gA.1 hy).1
 have:(xs++Array.replicate (n-xs.size) undef).getD j undef=y:=by
  rw[Array.getD_eq_getD_getElem?,Array.getElem?_append_left hjx,<-aT_,hy];rfl
 rw[this];exact hr
def Hf (tmps:Array Value):ResultVar->Sem Value
 | .tmp t=>pure (tmps.getD t undef)
 | .cell a t=>do loadVar t (<-asAddr (tmps.getD a undef))
theorem qJ (fn:Func) (tmps:Array Value):results fn tmps=(fn.results.mapM (Hf tmps)>>= fun vs=>pure (if h:vs.size=1 then vs[0] else .tuple vs)):=rfl
theorem yJ (hi:Inv ρ σ w) {t:PT AV} {n:Nat} {tmps:Array Value} (ht:TR ρ t n tmps) {r:ResultVar} {v:AV} (h:fZ P t σ r=some v):
  ∃x,(Hf tmps r).run P w= .ok x w/\VR ρ v x:=by
 cases r with
 | tmp k=>exact⟨_,rfl,(ht.2 k v h).2⟩
 | cell k ty=>
  simp only[fZ] at h;cases hk:t.get (posOf k) with
  | none=>rw[hk] at h;cases h
  | some u=>
   rw[hk] at h;have hvx:=(ht.2 k u hk).2;cases u with
   | ptr b off=>
    dsimp only at h;cases hg:σ.m.get b with
    | none=>rw[hg] at h;cases h
    | some ob=>
     rw[hg] at h;cases ob with
     | row cells e ro=>
      simp only[VR] at hvx;obtain⟨l,hl,hfx⟩:=hvx;obtain⟨y,hy,hr⟩:=mn (P:=P) hi hg hl h;refine⟨y,?_,hr⟩;simp[Hf,hfx,asAddr,hy]
     | _=>cases h
   | _=>cases h
theorem oF (hi:Inv ρ σ w) {t:PT AV} {n:Nat} {tmps:Array Value} (ht:TR ρ t n tmps):∀{rs:List ResultVar} {vs:List AV},cF (fZ P t σ) rs=some vs->
  ∃xs:List Value,(rs.mapM (Hf tmps):Sem (List Value)).run P w= .ok xs w/\cG ρ vs xs
 | [],vs,h=>by rw[gL] at h;cases h;exact⟨[],by simp,cG.nil⟩
 | r::rs,vs,h=>by
  obtain⟨y,r',h1,h2,rfl⟩:=fX h;obtain⟨x,hx,hv⟩:=yJ (P:=P) hi ht h1;obtain⟨xs,hxs,hvs⟩:=oF hi ht h2;refine⟨x::xs,?_,cG.cons hv hvs⟩;simp only[List.mapM_cons,sB_,hx,rA,hxs,sP_]
theorem p7 (hi:Inv ρ σ w) {fn:Func} {t:PT AV} {n:Nat} {tmps:Array Value} (ht:TR ρ t n tmps) {v:AV} (h:dX P fn t σ=some v):
  ∃x,(results fn tmps).run P w= .ok x w/\VR ρ v x:=by
 unfold dX at h;cases ha:cF (fZ P t σ) fn.results.toList with
 | none=>rw[ha] at h;cases h
 | some vs=>
  rw[ha] at h;obtain⟨xs,hx,hv⟩:=oF (P:=P) hi ht ha
  have hm:(fn.results.mapM (Hf tmps):Sem (Array Value)).run P w= .ok xs.toArray w:=by
   rw[Array.mapM_eq_mapM_toList];simp only[Sem.run_map,hx,rA]
  cases vs with
  | nil=>
   cases h;have:=hv.ee;subst this;refine⟨.tuple #[],by rw[qJ,sB_,hm];rfl,by simp only[VR];exact⟨_,rfl,cG.nil⟩⟩
  | cons u us=>
   obtain⟨x,r,rfl,h1,h2⟩:=hv.cons_inv;cases us with
   | nil=>
    cases h;have:=h2.ee;subst this;exact⟨x,by rw[qJ,sB_,hm];rfl,h1⟩
   | cons u' us=>
    cases h;obtain⟨x',r',rfl,h3,h4⟩:=h2.cons_inv;refine⟨.tuple (x::x'::r').toArray,by rw[qJ,sB_,hm];rfl,by simp only[VR];exact⟨_,rfl,by simpa using hv⟩⟩
end
theorem tH {p q:Pos} (h:dQ.beqP p q=true):p=q:=nB h
theorem H2 {c d:rZ} (h:dQ.beqC c d=true):c=d:=by
  unfold dQ.beqC at h;split at h
  · rw[nB h]
  · rw[nB h]
  · cases h
theorem C0 {x y:AV} (h:dQ.nW x y=true):x=y:=by
  unfold dQ.nW at h;split at h
  · rw[kW] at h;rw[eq_of_beq h]
  · rw[bA_,dq,decide_eq_true_eq] at h;rw[oc h.1,h.2]
  · rw[j1,decide_eq_true_eq] at h;rw[h]
  · rfl
  · rw[nB h]
  · rw[bA_] at h;rw[tH h.1,nB h.2]
  · rfl
  · simp only[bA_] at h;rw[tH h.1.1.1,nB h.1.1.2,nB h.1.2,H2 h.2]
  · rfl
  · rw[tH h]
  · rfl
  · rfl
  · rw[nB h]
  · simp only[bA_] at h;rw[nB h.1.1,tH h.1.2,nB h.2]
  · cases h
theorem oW:∀{xs ys:List AV},dQ.beqL xs ys=true->xs=ys
  | [],[],_=>rfl
  | [],_::_,h=>by cases h
  | _::_,[],h=>by cases h
  | x::xs,y::ys,h=>by
    have h':(bif dQ.nW x y then dQ.beqL xs ys else false)=true:=h;rw[a0] at h';split at h'
    · rename_i hb;rw[C0 hb,oW h']
    · cases h'
theorem tG {x y:AV} (h:dQ x y=true):x=y:=by
  unfold dQ at h;split at h
  · rw[oW h]
  · exact C0 h
theorem zr:∀{xs ys:List AV},FF xs ys=true->xs=ys
  | [],[],_=>rfl
  | [],_::_,h=>by cases h
  | _::_,[],h=>by cases h
  | x::xs,y::ys,h=>by
    have h':(bif dQ x y then FF xs ys else false)=true:=h;rw[a0] at h';split at h'
    · rename_i hb;rw[tG hb,zr h']
    · cases h'
theorem wV:∀{xs ys:List eJ},BV xs ys=true->xs=ys
  | [],[],_=>rfl
  | [],_::_,h=>by cases h
  | _::_,[],h=>by cases h
  | x::xs,y::ys,h=>by
    have h':(bif dQ x.key y.key then(bif dQ x.val y.val then(bif Nat.beq x.born y.born then BV xs ys else false) else false) else false)=true:=h;rw[a0] at h';split at h'
    · rename_i h1
      rw[a0] at h';split at h'
      · rename_i h2
        rw[a0] at h';split at h'
        · rename_i h3
          have e1:=tG h1;have e2:=tG h2;have e3:=nB h3;rw[wV h'];cases x;cases y;simp only at e1 e2 e3;subst e1;subst e2;subst e3;rfl
        · cases h'
      · cases h'
    · cases h'
theorem F6 {x y:bQ} (h:Da x y=true):x=y:=by
  unfold Da at h;split at h
  · rw[a0] at h
    split at h
    · rename_i he;rw[nB he,oW h]
    · cases h
  · rw[a0] at h
    split at h
    · rename_i he;rw[nB he,oW h]
    · cases h
  · rw[a0] at h
    split at h
    · rename_i he;rw[nB he,wV h]
    · cases h
  · rw[a0] at h
    split at h
    · rename_i he
      rw[j1,decide_eq_true_eq] at h;rw[nB he,h]
    · cases h
  · rfl
  · rfl
  · cases h
theorem AR:∀{l:List (Nat×bQ)} {σ:aD},KE l σ=true->∀x∈l,σ.m.get x.1=some x.2
  | [],σ,_,x,hx=>by cases hx
  | y::l,σ,h,x,hx=>by
    have h':(match σ.m.get y.1 with | some o=>bif Da o y.2 then KE l σ else false | none=>false)=true:=h;split at h'
    · rename_i o ho
      rw[a0] at h';split at h'
      · rename_i he
        rcases mQ_.1 hx with rfl | hx
        · rw[ho,F6 he]
        · exact AR h' x hx
      · cases h'
    · cases h'
theorem oD:∀{l:List (Nat×bQ)} {m:PT bQ} {b:Nat} {o:bQ},(tN l m).get b=some o->(∃x∈l,x.1=b/\x.2=o)∨((∀x∈l,x.1≠b)/\m.get b=some o)
  | [],m,b,o,h=>.inr ⟨fun x hx=>(by cases hx),h⟩
  | y::l,m,b,o,h=>by
    have h':((tN l m).put (some y.2) y.1).get b=some o:=h;rw[PT.iY] at h';split at h'
    · rename_i e
      cases h';exact .inl ⟨y,mS_,e.symm,rfl⟩
    · rename_i hne
      rcases oD h' with ⟨x,h1,h2⟩ | ⟨h1,h2⟩
      · exact .inl ⟨x,mC_ _ h1,h2⟩
      · refine .inr ⟨fun x hx=>?_,h2⟩
        rcases mQ_.1 hx with rfl | hx
        · exact fun e=>hne e.symm
        · exact h1 x hx
theorem s7:∀{l:List (Nat×bQ)} {m:PT bQ} {b:Nat} {o:bQ},(x8 l m).get b=some o->(∀x∈l,x.1≠b)/\m.get b=some o
  | [],m,b,o,h=>⟨fun x hx=>(by cases hx),h⟩
  | y::l,m,b,o,h=>by
    have h':((x8 l m).put none y.1).get b=some o:=h;rw[PT.iY] at h';split at h'
    · cases h'
    · rename_i hne
      obtain⟨h1,h2⟩:=s7 h';refine⟨fun x hx=>?_,h2⟩;rcases mQ_.1 hx with rfl | hx
      · exact fun e=>hne e.symm
      · exact h1 x hx
theorem uX (E:Nat->TypeId) {l:List (Nat×List AV)} {b:Nat} {o:bQ} (h:(Ce l E).get b=some o):∃x∈l,x.1=b/\o= .row x.2 (E x.1) true:=by
  have key:∀(l:List (Nat×List AV)) (m:PT bQ),(l.foldl (fun m x=>m.put (some (.row x.2 (E x.1) true)) (posOf x.1)) m).get b=some o->(∃x∈l,x.1=b/\o= .row x.2 (E x.1) true)∨m.get b=some o:=by
    intro l;induction l with
    | nil=>intro m h;exact .inr h
    | cons x l ih=>
      intro m h;rcases ih _ h with ⟨y,h1,h2⟩ | h
      · exact .inl ⟨y,mC_ _ h1,h2⟩
      · rw[PT.iY] at h
        split at h
        · rename_i e
          cases h;exact .inl ⟨x,mS_,e.symm,rfl⟩
        · exact .inr h
  rcases key l _ h with h | h
  · exact h
  · rw[PT.ld] at h;cases h
theorem wI {laid:List (Nat×List AV)} {E:Nat->TypeId} {e:ME} {b:Nat} {o:bQ} (h:(pP laid E e).m.get b=some o):(∃x∈e.l,x.1=b/\x.2=o)∨∃x∈laid,x.1=b/\o= .row x.2 (E x.1) true:=by
  rcases oD h with h | ⟨_,h⟩
  · exact .inl h
  · exact .inr (uX E h)
section
variable {P:Program} {G:Cx} {ρ:cz} {σ:aD} {w:World}
theorem Inv.putObj (hi:Inv ρ σ w) {b:Pos} {l:Loc} {o o':bQ} {x:Obj} (hb:σ.m.get b=some o) (hl:ρ b=some l) (hro:o.ro=false) (hro':o'.ro=false) (ho:gn ρ l o' x):
    Inv ρ (σ.setObj b o') (w.putObj l.cZ x)/\dZ ρ σ w ρ (σ.setObj b o') (w.putObj l.cZ x):=by
  have hlt:=hi.cZ b l hl;exact hi.change hb hl hro hro' (World.putObj_heap_same hlt) ho (fun r hr=>World.putObj_heap_other hr) (by simp) rfl rfl rfl
theorem mV (hov:∀g,G.ov g=true->m8 P g) {ev:Operand->Option AV} {f:Operand->Value} {o:Oper} {r:HR} (hi:Inv ρ σ w) (hE:ER ρ ev f o.op) (h:dJ P G ev σ o.op=r) (hne:∀n,r≠ .err n):wh P ρ σ w r ((execOp f o).run P w):=by
  subst h;unfold dJ at hne⊢;cases hk:kindOf P o.op with
  | pure=>
    rw[hk] at hne;dsimp only at hne⊢;cases hp:dg P ev o.op with
    | none=>rw[hp] at hne;exact absurd rfl (hne (Nat.add 1000 (rD o.op)))
    | some v=>
      obtain⟨x,hx,hv⟩:=vA (P:=P) (w:=w) hE hp;rw[hx];exact .val hv hi (dZ.refl ρ σ w)
  | read=>
    rw[hk] at hne;dsimp only at hne⊢;cases hp:fV P ev σ o.op with
    | none=>rw[hp] at hne;exact absurd rfl (hne (Nat.add 2000 (rD o.op)))
    | some v=>
      obtain⟨x,hx,hv⟩:=vF (P:=P) hi hE hp;rw[hx];exact .val hv hi (dZ.refl ρ σ w)
  | alloc=>
    rw[hk] at hne;dsimp only at hne⊢;cases hp:eU P ev o.op with
    | none=>rw[hp] at hne;exact absurd rfl (hne (Nat.add 3000 (rD o.op)))
    | some p=>
      obtain⟨ob,mk⟩:=p;obtain⟨x,ob',n,hx,hro,hob,hv⟩:=sT (P:=P) (w:=w) hE hp;obtain⟨inv,st⟩:=hi.alloc (l:=⟨w.heap.size,0,n⟩) rfl hob;rw[hx];exact .val (hv _ _ (cz.b0 _ _ _)) inv st
  | ja=>
    rw[hk] at hne;exact z0 hov hi hE rfl hne
theorem lT {ev:Operand->Option AV} {o:Oper} (hne:∀n,dJ P G ev σ o.op≠ .err n) (c:Call):o.op≠ .defer c:=by
  intro e;rw[e] at hne;exact hne 16 rfl
def zg (ρ:cz):Md->FrameMode->Prop
  | .ret,u=>u= .returning
  | .iU v,u=>∃x,u= .panicking [{v:=x,recovered:=false}]/\VR ρ v x
  | .HP v,u=>∃x,u= .panicking [{v:=x,recovered:=true}]/\VR ρ v x
theorem zg.mono {ρ ρ':cz} (h:ρ.le ρ'):∀{md:Md} {u:FrameMode},zg ρ md u->zg ρ' md u
  | .ret,_,h'=>h'
  | .iU _,_,⟨x,h1,h2⟩=>⟨x,h1,VR.mono h _ _ h2⟩
  | .HP _,_,⟨x,h1,h2⟩=>⟨x,h1,VR.mono h _ _ h2⟩
theorem zg.settle {ρ:cz}:∀{md:Md} {u:FrameMode},zg ρ md u->zg ρ (tO md) (Go.settle u)
  | .ret,u,h=>by have h:u= .returning:=h;subst h;rfl
  | .iU v,u,⟨x,h1,h2⟩=>by subst h1;exact⟨x,rfl,h2⟩
  | .HP v,u,⟨x,h1,h2⟩=>by subst h1;rfl
theorem zg.Dq {ρ:cz}:∀{md:Md} {u:FrameMode},zg ρ md u->u≠ .run
  | .ret,u,h=>by have h:u= .returning:=h;subst h;simp
  | .iU v,u,⟨x,h1,h2⟩=>by subst h1;simp
  | .HP v,u,⟨x,h1,h2⟩=>by subst h1;simp
def SQ (Q:Exit->Act->List Frame->World->Prop) (c₀:Frame) (rest:List Frame) (ρ:cz) (σ:aD) (w:World) (n:Nat) (e:Ex) (t':PT AV) (d':List DE) (md':Md) (σ':aD):Prop:=
  ∀(ρ':cz) (w':World) (a':Act) (u':FrameMode) (E:Exit),Inv ρ' σ' w'->dZ ρ σ w ρ' σ' w'->TR ρ' t' n a'.tmps->DR ρ' d' a'.defers->zg ρ' md' u'->LH ρ' e E->Q E a' ({c₀ with mode:=u'}::rest) w'
theorem EK {o:Oper} (h:isRec o=true):∃c,o.op= .call c/\c.callee= .builtin .recover:=by
  unfold isRec at h;split at h
  · rename_i c hc
    split at h
    · rename_i hb;exact⟨c,hc,hb⟩
    · cases h
  · cases h
theorem iD (hov:∀g,G.ov g=true->m8 P g) {ops:Array Oper} {n m:Nat} {Q:Exit->Act->List Frame->World->Prop} {c₀:Frame} {rest:List Frame} {e:Ex} {t':PT AV} {d':List DE} {md':Md} {σ':aD}:
    ∀(l:List Oper) (i:Nat),ops.toList.drop i=l->∀(t:PT AV) (md:Md) (σ:aD) (ρ:cz) (w:World) (a:Act) (u:FrameMode),IQ P G ops n l t md σ= .ok e t' d' md' σ'->Inv ρ σ w->GR ρ G->TR ρ t n a.tmps->DR ρ [] a.defers->zg ρ md u->
      SQ Q c₀ rest ρ σ w n e t' d' md' σ'->wpOpsSIn Fence.wide m P ops Q (List.range' i l.length) a ({c₀ with mode:=u}::rest) w
  | [],i,hl,t,md,σ,ρ,w,a,u,h,hi,hg,ht,hd,hm,hQ=>by
    have h':SR.ok .normal t [] md σ= .ok e t' d' md' σ':=h;cases h';exact hQ ρ w a u _ hi (dZ.refl _ _ _) ht hd hm rfl
  | o::l,i,hl,t,md,σ,ρ,w,a,u,h,hi,hg,ht,hd,hm,hQ=>by
    have hoi:ops[i]?=some o:=by
      rw[<-aT_];have:(ops.toList.drop i)[0]?=some o:=by rw[hl];rfl
      simpa using this
    have hl':ops.toList.drop (i+1)=l:=by
      rw[<-List.drop_drop,hl];rfl
    have h':Kr P G ops n o t md σ (IQ P G ops n l)= .ok e t' d' md' σ':=h;unfold Kr at h';simp only[List.length_cons,List.range'_succ,wpOpsSIn,hoi];refine⟨fun f _=>trivial,?_⟩;cases hw:bu ops t o with
    | none=>rw[hw] at h';cases h'
    | some b=>
      rw[hw] at h';rw[nG hw ht];cases b with
      | false=>
        dsimp only at h';cases hp:cO t n o.dst unit with
        | none=>rw[hp] at h';cases h'
        | some t₁=>
          rw[hp] at h';simp only[Bool.false_eq_true,if_false];exact iD hov l (i+1) hl' t₁ md σ ρ w _ u h' hi hg (ht.put hp km) (by rw[put_defers];exact hd) hm hQ
      | true=>
        dsimp only at h';simp only[if_true];rw[a0] at h';split at h'
        · rename_i hr
          obtain⟨c,ho,hcal⟩:=EK hr;cases hp:cO t n o.dst (IZ md) with
          | none=>rw[hp] at h';cases h'
          | some t₁=>
            rw[hp] at h'
            have hex:(execOp a.eval o).run P w= .ok .recover w:=by
              simp only[execOp,ho,resolve,hcal,sB_,sP_,rA,invoke,builtin]
            rw[hex];cases md with
            | ret=>
              have hm:u= .returning:=hm;subst hm;simp only[recoverD];exact iD hov l (i+1) hl' t₁ .ret σ ρ w _ .returning h' hi hg (ht.put hp (by simp only[IZ,VR])) (by rw[put_defers];exact hd) rfl hQ
            | iU v=>
              obtain⟨x,rfl,hv⟩:=hm;simp only[recoverD];exact iD hov l (i+1) hl' t₁ (.HP v) σ ρ w _ (.panicking [{v:=x,recovered:=true}]) h' hi hg (ht.put hp hv) (by rw[put_defers];exact hd) ⟨x,rfl,hv⟩ hQ
            | HP v=>
              obtain⟨x,rfl,hv⟩:=hm;simp only[recoverD];exact iD hov l (i+1) hl' t₁ (.HP v) σ ρ w _ (.panicking [{v:=x,recovered:=true}]) h' hi hg (ht.put hp (by simp only[IZ,VR])) (by rw[put_defers];exact hd) ⟨x,rfl,hv⟩ hQ
        · cases he:dJ P G (bo G t) σ o.op with
          | val v σ₁=>
            rw[he] at h';dsimp only at h';cases hp:cO t n o.dst v with
            | none=>rw[hp] at h';cases h'
            | some t₁=>
              rw[hp] at h';have ho:=mV (P:=P) (w:=w) (o:=o) (f:=a.eval) hov hi (wE _ hg ht) he (fun n=>by simp);generalize hq:(execOp a.eval o).run P w=res at ho⊢;cases ho with
              | val hv hi₁ st₁=>
                have hle:=st₁.le hi
                exact iD hov l (i+1) hl' t₁ md σ₁ _ _ _ u h' hi₁ (hg.mono hle) ((ht.mono hle).put hp hv) (by rw[put_defers];exact hd) (hm.mono hle)
                  fun ρ' w' a' u' E i' s'=>hQ ρ' w' a' u' E i' (st₁.trans s')
          | skip σ₁=>
            rw[he] at h';dsimp only at h';cases hp:cO t n o.dst unit with
            | none=>rw[hp] at h';cases h'
            | some t₁=>
              rw[hp] at h';have ho:=mV (P:=P) (w:=w) (o:=o) (f:=a.eval) hov hi (wE _ hg ht) he (fun n=>by simp);generalize hq:(execOp a.eval o).run P w=res at ho⊢;cases ho with
              | skip hi₁ st₁=>
                have hle:=st₁.le hi
                exact iD hov l (i+1) hl' t₁ md σ₁ _ _ _ u h' hi₁ (hg.mono hle) ((ht.mono hle).put hp km) (by rw[put_defers];exact hd) (hm.mono hle)
                  fun ρ' w' a' u' E i' s'=>hQ ρ' w' a' u' E i' (st₁.trans s')
          | _=>rw[he] at h';cases h'
theorem oq {ih:iE} (hS:Sound P G ih) {n m:Nat} {Q:Exit->Act->List Frame->World->Prop} {c₀:Frame} {rest:List Frame} {c:Code} {t:PT AV} {md:Md} {σ:aD} {e:Ex} {t':PT AV} {d':List DE} {md':Md} {σ':aD} (h:xg md (ih c t n [] none σ)= .ok e t' d' md' σ')
    {ρ:cz} {w:World} {a:Act} {u:FrameMode} (hi:Inv ρ σ w) (hg:GR ρ G) (ht:TR ρ t n a.tmps) (hd:DR ρ [] a.defers) (hm:zg ρ md u) (hQ:SQ Q c₀ rest ρ σ w n e t' d' md' σ'):c.wpSIn Fence.wide m P Q a ({c₀ with mode:=u}::rest) w:=by
  cases hc:ih c t n [] none σ with
  | err k=>rw[hc] at h;cases h
  | ok e₁ t₁ d₁ σ₁=>
    rw[hc] at h;cases h
    exact wpSIn_of_wpIn rfl (hS.run c t n [] none σ e t' d' σ' hc ρ w a none m (fun E a' w'=>Q E a' ({c₀ with mode:=u}::rest) w') hi hg ht hd trivial
      fun ρ' w' a' i s t'' d'' E hE=>hQ ρ' w' a' u E i s t'' d'' (hm.mono (s.le hi)) hE)
theorem lL {ih:iE} (hS:Sound P G ih) {n m:Nat} {c₀:Frame} {rest:List Frame}:∀(k:Nat) (c:Code) (t:PT AV) (md:Md) (σ:aD) (e:Ex) (t':PT AV) (d':List DE) (md':Md) (σ':aD),zF P G ih k c t n md σ= .ok e t' d' md' σ'->
    ∀(Q:Exit->Act->List Frame->World->Prop) (ρ:cz) (w:World) (a:Act) (u:FrameMode),Inv ρ σ w->GR ρ G->TR ρ t n a.tmps->DR ρ [] a.defers->zg ρ md u->SQ Q c₀ rest ρ σ w n e t' d' md' σ'->c.wpSIn Fence.wide m P Q a ({c₀ with mode:=u}::rest) w
  | 0,c,t,md,σ,e,t',d',md',σ',h=>by cases h
  | k+1,c,t,md,σ,e,t',d',md',σ',h=>by
    intro Q ρ w a u hi hg ht hd hm hQ;cases c with
    | seq x y=>
      have h':Lx (zF P G ih k x t n md σ) (fun t md σ=>zF P G ih k y t n md σ)= .ok e t' d' md' σ':=h;refine wpSIn_seq ?_;cases hx:zF P G ih k x t n md σ with
      | err q=>rw[hx] at h';cases h'
      | ok e₁ t₁ d₁ md₁ σ₁=>
        rw[hx] at h'
        by_cases he:e₁= .normal
        · subst he
          cases d₁ with
          | cons _ _=>cases h'
          | nil=>
            refine lL hS k x t md σ _ _ _ _ _ hx _ ρ w a u hi hg ht hd hm fun ρ₁ w₁ a₁ u₁ E i₁ s₁ t₁' d₁' m₁ hE=>?_
            have hE:E= .normal:=hE;subst hE;exact lL hS k y _ _ _ _ _ _ _ _ h' Q ρ₁ w₁ a₁ u₁ i₁ (hg.mono (s₁.le hi)) t₁' d₁' m₁ fun ρ' w' a' u' E i' s'=>hQ ρ' w' a' u' E i' (s₁.trans s')
        · have h'':SR.ok e₁ t₁ d₁ md₁ σ₁= .ok e t' d' md' σ':=by cases e₁<;>first | exact absurd rfl he | exact h'
          cases h'';refine lL hS k x t md σ _ _ _ _ _ hx _ ρ w a u hi hg ht hd hm fun ρ₁ w₁ a₁ u₁ E i₁ s₁ t₁' d₁' m₁ hE=>?_
          have:=hQ ρ₁ w₁ a₁ u₁ E i₁ s₁ t₁' d₁' m₁ hE;cases e with
          | normal=>exact absurd rfl he
          | iU v=>obtain⟨x,rfl,_⟩:=hE;exact this
          | exit i=>have hE:E= .exit i:=hE;subst hE;exact this
          | goto i=>have hE:E= .goto i:=hE;subst hE;exact this
          | ret=>have hE:E= .ret:=hE;subst hE;exact this
    | region id ops draw=>
      have h':(bif draw then xg md (ih (.region id ops draw) t n [] none σ) else bif Gq ops.toList then IQ P G ops n ops.toList t md σ else xg md (ih (.region id ops draw) t n [] none σ))= .ok e t' d' md' σ':=h;cases draw with
      | true=>exact oq hS h' hi hg ht hd hm hQ
      | false=>
        simp only[cond_false] at h';rw[a0] at h';split at h'
        · refine wpSIn_region ?_
          have:=iD hS.cx.ov (m:=m) (Q:=Q) (c₀:=c₀) (rest:=rest) ops.toList 0 rfl t md σ ρ w a u h' hi hg ht hd hm hQ;rw[List.range_eq_range'];simpa using this
        · exact oq hS h' hi hg ht hd hm hQ
    | _=>exact oq hS h hi hg ht hd hm hQ
theorem Es {fn:Func} {r:SR} {md':Md} {σ':aD} (h:J4 P fn r=some (md',σ')):∃e t md v,r= .ok e t [] md σ'/\md'=tO md/\(e= .normal∨e= .ret)/\dX P fn t σ'=some v:=by
  unfold J4 at h;split at h
  · split at h
    · rename_i v hv
      cases h;exact⟨_,_,_,v,rfl,rfl,.inl rfl,hv⟩
    · cases h
  · split at h
    · rename_i v hv
      cases h;exact⟨_,_,_,v,rfl,rfl,.inr rfl,hv⟩
    · cases h
  · cases h
theorem yL {ih:iE} (hS:Sound P G ih) {f:Nat} {args:List AV} {xs:Array Value} {md md':Md} {σ':aD} {u:FrameMode} {m:Nat} (h:vM P G ih f args md σ=some (md',σ')) (hi:Inv ρ σ w) (hg:GR ρ G) (hx:cG ρ args xs.toList) (hm:zg ρ md u)
    {R:Ending->FrameMode->World->Prop} (hR:∀(ρ':cz) (w':World) (u':FrameMode) (v:Value),Inv ρ' σ' w'->dZ ρ σ w ρ' σ' w'->zg ρ' md' (Go.settle u')->R (.returned v) u' w'):CallsDIn Fence.wide m P f xs u w R:=by
  unfold vM at h;cases hf:P.funcs[f]? with
  | none=>rw[hf] at h;cases h
  | some fn=>
  rw[hf] at h;dsimp only at h;cases hb:fn.body with
  | none=>rw[hb] at h;cases h
  | some c=>
  cases ha:pN fn.ntmps args with
  | none=>rw[hb,ha] at h;cases h
  | some t=>
  rw[hb,ha] at h;dsimp only at h;obtain⟨e,t₁,md₁,v,hr,rfl,he,hres⟩:=Es h;have ht:=uc ha hx;refine callsDIn_of_wpSIn hf hb trivial fun c₀ cs hu=>?_
  have hc₀:({c₀ with mode:=u}:Frame)=c₀:=by subst hu;rfl
  have key:=lL hS (m:=m) (c₀:=c₀) (rest:=cs) 30 c t md σ e t₁ [] md₁ σ' hr (bodyPostS P fn c₀ cs R) ρ w {tmps:=xs++Array.replicate (fn.ntmps-xs.size) undef,defers:=[]} u hi hg ht rfl hm;rw[hc₀] at key;refine key fun ρ' w' a' u' E i' s' t'' d'' m' hE=>?_
  obtain⟨y,hy,_⟩:=p7 (P:=P) i' t'' hres;have hd0:a'.defers= []:=d'';have fin:bodyPostS P fn c₀ cs R .normal a' ({c₀ with mode:=u'}::cs) w':=⟨hd0,u',rfl,y,hy,hR ρ' w' u' y i' s' m'.settle⟩;rcases he with rfl | rfl
  · have hE:E= .normal:=hE
    subst hE;exact fin
  · have hE:E= .ret:=hE
    subst hE;exact fin
theorem lR {ih:iE} (hS:Sound P G ih) {fn:Func} {m:Nat} {tmps:Array Value} {R:Ending->World->Prop}:∀(d:List DE) (ds:List Deferred) (md:Md) (σ:aD) (md₁:Md) (σ₁:aD) (ρ:cz) (w:World) (u:FrameMode),ss P G ih d md σ=some (md₁,σ₁)->DR ρ d ds->Inv ρ σ w->GR ρ G->zg ρ md u->
    (∀(ρ':cz) (w':World) (u':FrameMode),Inv ρ' σ₁ w'->dZ ρ σ w ρ' σ₁ w'->zg ρ' md₁ u'->LeavesIn Fence.wide m P fn tmps R [] u' w')->LeavesInM Fence.wide m P fn tmps R ds u w
  | [],ds,md,σ,md₁,σ₁,ρ,w,u,h,hd,hi,hg,hm,hk=>by
    have h':some (md,σ)=some (md₁,σ₁):=h;cases h';have:ds= []:=hd;subst this;exact hk ρ w u hi (dZ.refl ρ σ w) hm
  | .mark b::d,ds,md,σ,md₁,σ₁,ρ,w,u,h,hd,hi,hg,hm,hk=>by
    obtain⟨l,r,hl,rfl,hd'⟩:=hd
    have h':(match σ.m.get b with
        | some .mark=>ss P G ih d md (σ.setObj b .dead)
        | _=>none)=some (md₁,σ₁):=h
    cases hb:σ.m.get b with
    | none=>rw[hb] at h';cases h'
    | some o=>
      rw[hb] at h';cases o with
      | mark=>
        dsimp only at h';obtain⟨x,hx,hox⟩:=hi.obj b _ l hb hl;have hox':x= .deferred (some []):=hox;subst hox';obtain⟨inv,st⟩:=hi.putObj (o':=.dead) (x:=.deferred none) hb hl rfl rfl trivial;refine⟨hm.Dq,.inl ⟨l.cZ,w.putObj l.cZ (.deferred none),rfl,run_takeDeferred hx,?_⟩⟩;exact lR hS d r md _ md₁ σ₁ ρ _ u h' hd' inv hg hm fun ρ' w' u' hi' st'=>hk ρ' w' u' hi' (st.trans st')
      | _=>cases h'
  | .call f args ca::d,ds,md,σ,md₁,σ₁,ρ,w,u,h,hd,hi,hg,hm,hk=>by
    obtain⟨xs,cs,r,rfl,hxs,hcs,hd'⟩:=hd
    have h':(bif uV P f then(match vM P G ih f (fD args ca) md σ with
        | some (md',σ')=>ss P G ih d md' σ'
        | none=>none) else none)=some (md₁,σ₁):=h
    rw[a0] at h';split at h'
    · rename_i hgo
      cases hr:vM P G ih f (fD args ca) md σ with
      | none=>rw[hr] at h';cases h'
      | some q=>
        obtain⟨md',σ'⟩:=q;rw[hr] at h';dsimp only at h'
        have hinv:(invoke (.fn (.func f) cs) xs).run P w= .ok (.enter f (xs++cs)) w:=by
          simp only[invoke];exact qy hgo
        refine⟨hm.Dq,.inr ⟨fun h=>(by cases h),.func f,cs,f,xs++cs,rfl,hinv,fun _ _=>trivial,?_⟩⟩;refine yL hS hr hi hg (by rw[dw];simpa using hxs.append hcs) hm fun ρ' w' u' v i' s' m'=>?_
        have hle:=s'.le hi;exact lR hS d r md' σ' md₁ σ₁ ρ' w' (Go.settle u') h' (hd'.mono hle) i' (hg.mono hle) m' fun ρ'' w'' u'' i'' s''=>hk ρ'' w'' u'' i'' (s'.trans s'')
    · cases h'
theorem sd {ih:iE} (hS:Sound P G ih) {fn:Func} {m n:Nat} {t:PT AV} {d:List DE} {md:Md} {r:KR} {a:Act} {u:FrameMode} {R:Ending->World->Prop} (h:ya P G ih fn md t d σ=r) (hne:∀n,r≠ .err n) (hi:Inv ρ σ w) (hg:GR ρ G) (ht:TR ρ t n a.tmps) (hd:DR ρ d a.defers) (hm:zg ρ md u)
    (hR:∀(ρ':cz) (w':World) (E:Ending),Inv ρ' r.heap w'->dZ ρ σ w ρ' r.heap w'->KW ρ' r E->R E w'):LeavesInM Fence.wide m P fn a.tmps R a.defers u w:=by
  unfold ya at h;cases hl:ss P G ih d md σ with
  | none=>rw[hl] at h;exact absurd h.symm (hne 71)
  | some q=>
    obtain⟨md₁,σ₁⟩:=q;rw[hl] at h;cases md₁ with
    | ret=>
      dsimp only at h;cases hr:dX P fn t σ₁ with
      | none=>rw[hr] at h;exact absurd h.symm (hne 70)
      | some v=>
        rw[hr] at h;subst h;refine lR hS d a.defers md σ _ _ ρ w u hl hd hi hg hm fun ρ' w' u' hi' st' hm'=>?_
        have hm':u'= .returning:=hm';subst hm';obtain⟨x,hx,hv⟩:=p7 (P:=P) hi' (ht.mono (st'.le hi)) hr;exact⟨x,hx,hR ρ' w' _ hi' st' ⟨x,rfl,hv⟩⟩
    | iU v=>
      dsimp only at h;subst h;refine lR hS d a.defers md σ _ _ ρ w u hl hd hi hg hm fun ρ' w' u' hi' st' hm'=>?_
      obtain⟨x,rfl,hv⟩:=hm';exact hR ρ' w' _ hi' st' ⟨x,rfl,hv⟩
    | HP v=>exact absurd h.symm (hne 71)
theorem wK {ih:iE} (hS:Sound P G ih) {f:Nat} {args:List AV} {xs:Array Value} {r:KR} (h:mH P G ih f args σ=r) (hne:∀n,r≠ .err n) (hi:Inv ρ σ w) (hg:GR ρ G) (hx:cG ρ args xs.toList)
    (rl:Option Nat) (m:Nat) {R:Ending->World->Prop} (hR:∀(ρ':cz) (w':World) (E:Ending),Inv ρ' r.heap w'->dZ ρ σ w ρ' r.heap w'->KW ρ' r E->R E w'):CallsIn (jq rl) m P f xs w R:=by
  refine qw rl ?_;unfold mH at h;cases hf:P.funcs[f]? with
  | none=>rw[hf] at h;exact absurd h.symm (hne 74)
  | some fn=>
  rw[hf] at h;dsimp only at h;cases hb:fn.body with
  | none=>rw[hb] at h;exact absurd h.symm (hne 73)
  | some c=>
  cases ha:pN fn.ntmps args with
  | none=>rw[hb,ha] at h;exact absurd h.symm (hne 73)
  | some t=>
  rw[hb,ha] at h;dsimp only at h;refine callsIn_of_wp_marks hf hb trivial ?_;have ht:=uc ha hx;cases hc:ih c t fn.ntmps [] none σ with
  | err k=>rw[hc] at h;exact absurd h.symm (hne k)
  | ok e t' d' σ₁=>
    rw[hc] at h;have hcode:=fun(Q:Exit->Act->World->Prop) hQ=>hS.run c t fn.ntmps [] none σ e t' d' σ₁ hc ρ w {tmps:=xs++Array.replicate (fn.ntmps-xs.size) undef,defers:=[]} none m Q hi hg ht rfl trivial hQ
    cases e with
    | normal=>
      refine hcode _ fun ρ' w' a' hi' st ht' hd' E hE=>?_
      have hE:E= .normal:=hE;subst hE;exact sd hS h hne hi' (hg.mono (st.le hi)) ht' hd' (md:=.ret) rfl fun ρ₂ w₂ E i₂ s₂ hE=>hR ρ₂ w₂ E i₂ (st.trans s₂) hE
    | ret=>
      refine hcode _ fun ρ' w' a' hi' st ht' hd' E hE=>?_
      have hE:E= .ret:=hE;subst hE;exact sd hS h hne hi' (hg.mono (st.le hi)) ht' hd' (md:=.ret) rfl fun ρ₂ w₂ E i₂ s₂ hE=>hR ρ₂ w₂ E i₂ (st.trans s₂) hE
    | iU v=>
      refine hcode _ fun ρ' w' a' hi' st ht' hd' E hE=>?_
      obtain⟨x,rfl,hv⟩:=hE;exact sd hS h hne hi' (hg.mono (st.le hi)) ht' hd' (md:=.iU v) ⟨x,rfl,hv⟩ fun ρ₂ w₂ E i₂ s₂ hE=>hR ρ₂ w₂ E i₂ (st.trans s₂) hE
    | exit i=>exact absurd h.symm (hne 72)
    | goto i=>exact absurd h.symm (hne 72)
theorem lJ {ih:iE} (hS:Sound P G ih) {f:Nat} {args:List AV} {xs:Array Value} {σ':aD} {v:AV} (h:mH P G ih f args σ= .ret v σ') (hi:Inv ρ σ w) (hg:GR ρ G) (hx:cG ρ args xs.toList)
    (rl:Option Nat) (m:Nat) {R:Ending->World->Prop} (hR:∀(ρ':cz) (w':World) (x:Value),Inv ρ' σ' w'->dZ ρ σ w ρ' σ' w'->VR ρ' v x->R (.returned x) w'):CallsIn (jq rl) m P f xs w R:=
  wK hS h (fun n h=>by cases h) hi hg hx rl m fun ρ' w' E i s ⟨x,hE,hv⟩=>by subst hE;exact hR ρ' w' x i s hv
theorem mN {ρ ρ':cz} {v:AV} {x:Value} (h:mM v=true) (hv:VR ρ v x):VR ρ' v x:=by
  cases v<;>first | (simp[mM] at h;done) | (simp only[VR] at hv⊢;exact hv)
theorem qP {v:AV} {l:List AV} (h:ep (v::l)=true):mM v=true/\ep l=true:=by
  have h':(bif mM v then ep l else false)=true:=h;cases hv:mM v with
  | true=>rw[hv] at h';exact⟨rfl,h'⟩
  | false=>rw[hv] at h';cases h'
theorem jR:∀{l:List AV},ep l=true->∀v∈l,mM v=true
  | [],_,v,hv=>by cases hv
  | x::l,h,v,hv=>by
    obtain⟨h1,h2⟩:=qP h;rcases mQ_.1 hv with rfl | hv
    · exact h1
    · exact jR h2 v hv
theorem sR {ρ ρ':cz}:∀{vs:List AV} {xs:List Value},ep vs=true->cG ρ vs xs->cG ρ' vs xs
  | [],xs,_,h=>by rw[h.ee];exact cG.nil
  | v::vs,xs,h,hv=>by
    obtain⟨h1,h2⟩:=qP h;obtain⟨x,r,rfl,h3,h4⟩:=hv.cons_inv;exact cG.cons (mN h1 h3) (sR h2 h4)
theorem Et {x y:AV} (h:yc x y=true):x=y:=by
  unfold yc at h;split at h
  · rw[kW] at h;rw[eq_of_beq h]
  · rw[bA_,dq,decide_eq_true_eq] at h;rw[oc h.1,h.2]
  · rw[j1,decide_eq_true_eq] at h;rw[h]
  · rfl
  · rfl
  · rfl
  · rfl
  · rfl
  · cases h
theorem kY:∀{xs ys:List AV},kB xs ys=true->xs=ys
  | [],[],_=>rfl
  | [],_::_,h=>by cases h
  | _::_,[],h=>by cases h
  | x::xs,y::ys,h=>by
    have h':(bif yc x y then kB xs ys else false)=true:=h;rw[a0] at h';split at h'
    · rename_i hb;rw[Et hb,kY h']
    · cases h'
theorem vI (v:AV):∀(n:Nat),DC n v=List.replicate n v
  | 0=>rfl
  | n+1=>by show v::DC n v=_;rw[vI v n,List.replicate_succ]
theorem js.inv {w w':World} (hk:js w w') (hi:Inv ρ σ w):Inv ρ σ w'/\dZ ρ σ w ρ σ w':=
  hi.of ⟨⟨hi.fresh,fun b l hb=>Nat.lt_of_lt_of_le (hi.cZ b l hb) hk.size,fun b o l hb hl=>let ⟨x,hx,ho⟩:=hi.obj b o l hb hl;⟨x,by rw[hk.same _ (hi.cZ b l hl)];exact hx,ho⟩,hi.inj⟩,
    ⟨fun _ _=>rfl,nR_ _,hk.size,fun r hr _=>hk.same r hr,fun _ h _=>h,hk.tape,hk.os,hk.out⟩⟩
theorem Dc {b vb:Pos} {o o':bQ} (x:Pos):(fa σ b o vb o').m.get x=if x=vb then some o' else if x=b then some o else none:=by
  unfold fa;rw[PT.iY,PT.iY,PT.ld]
theorem I6 (hi:Inv ρ σ w) {b vb:Pos} {o o₁ o':bQ} {l:Loc} (hb:σ.m.get b=some o) (hvb:σ.m.get vb=some o') (hl:ρ b=some l) (hro:o.ro=o₁.ro)
    (ho:∀x,gn ρ l o x->gn ρ l o₁ x):Inv ρ (fa σ b o₁ vb o') w:=by
  have back:∀x q,(fa σ b o₁ vb o').m.get x=some q->∃q',σ.m.get x=some q'/\q.ro=q'.ro/\((x=b/\q=o₁)∨q=q'):=fun x q h=>by
    rw[Dc] at h
    by_cases e:x=vb
    · rw[if_pos e] at h;cases h;exact⟨o',by rw[e];exact hvb,rfl,.inr rfl⟩
    · rw[if_neg e] at h
      by_cases e':x=b
      · rw[if_pos e'] at h;cases h;exact⟨o,by rw[e'];exact hb,hro.symm,.inl ⟨e',rfl⟩⟩
      · rw[if_neg e'] at h;cases h
  refine⟨⟨fun x hx=>⟨(hi.fresh x hx).1,?_⟩,hi.cZ,fun x q lx hx hlx=>?_,fun x y q r lx ly hx hy hlx hly he hne=>?_⟩,hi.nr.size,hi.nr.same,fun r hr ⟨x,q,l',h1,h2,h3,h4⟩=>?_⟩
  · cases hq:(fa σ b o₁ vb o').m.get x with
    | none=>rfl
    | some q=>
      obtain⟨q',h',_⟩:=back x q hq;rw[(hi.fresh x hx).2] at h';cases h'
  · obtain⟨q',h',_,h''⟩:=back x q hx
    obtain⟨y,hy,hr⟩:=hi.obj x q' lx h' hlx;refine⟨y,hy,?_⟩;rcases h'' with ⟨rfl,rfl⟩ | rfl
    · rw[hb] at h';cases h'
      rw[hl] at hlx;cases hlx;exact ho y hr
    · exact hr
  · obtain⟨q',h1,h2,_⟩:=back x q hx
    obtain⟨r',h3,h4,_⟩:=back y r hy;rw[h2,h4];exact hi.inj x y q' r' lx ly h1 h3 hlx hly he hne
  · obtain⟨q',h5,h6,_⟩:=back x q h1
    exact hi.nr.no r hr ⟨x,q',l',h5,by rw[<-h6];exact h2,h3,h4⟩
theorem EL (hi:Inv ρ σ w) {b vb:Pos} {cells cells' vc:List AV} {e ve:Nat} {l lv:Loc} (hb:σ.m.get b=some (.row cells e false)) (hvb:σ.m.get vb=some (.row vc ve false)) (hlb:ρ b=some l) (hlv:ρ vb=some lv)
    (hne:b≠vb) {ρ₁:cz} {σ₁:aD} {w₁:World} (i₁:Inv ρ₁ σ₁ w₁) (s₁:dZ ρ (fa σ b (.row cells' e false) vb (.row vc ve false)) w ρ₁ σ₁ w₁) {b₁:Pos} {l₁:Loc} {cs₁:List AV} {o₁ k:Nat}
    (g₁:σ₁.m.get b₁=some (.row cs₁ e false)) (hl₁:ρ₁ b₁=some l₁) (gv:σ₁.m.get vb=some (.row vc ve false)) (hne₁:b₁≠vb) (hfv:ep vc=true) (hk:o₁+k<=cs₁.length) (hfr:ep ((cs₁.drop o₁).take k)=true):
    tT (ρ.with σ.next ⟨l₁.cZ,l₁.sh+o₁,l₁.cells-o₁⟩) ((σ.drop b).alloc (.row ((cs₁.drop o₁).take k) e false)) w₁/\
      dZ ρ σ w (ρ.with σ.next ⟨l₁.cZ,l₁.sh+o₁,l₁.cells-o₁⟩) ((σ.drop b).alloc (.row ((cs₁.drop o₁).take k) e false)) w₁:=by
  have hle:=hi.tP ⟨l₁.cZ,l₁.sh+o₁,l₁.cells-o₁⟩;have hsame:((σ.drop b).alloc (.row ((cs₁.drop o₁).take k) e false)).m.get σ.next=some (.row ((cs₁.drop o₁).take k) e false):=PT.cY _ _ _
  have hget:∀x,x≠σ.next->((σ.drop b).alloc (.row ((cs₁.drop o₁).take k) e false)).m.get x=if x=b then none else σ.m.get x:=fun x hx=>by
    show((σ.m.put none b).put _ σ.next).get x=_;rw[PT.cV _ _ _ _ hx,PT.iY]
  have nr:∀x q,x≠σ.next->((σ.drop b).alloc (.row ((cs₁.drop o₁).take k) e false)).m.get x=some q->x≠b/\σ.m.get x=some q:=fun x q hx h=>by
    rw[hget x hx] at h;split at h
    · cases h
    · rename_i hxb;exact⟨hxb,h⟩
  have hold:∀x lx,x≠σ.next->(ρ.with σ.next ⟨l₁.cZ,l₁.sh+o₁,l₁.cells-o₁⟩) x=some lx->ρ x=some lx:=fun x lx hx h=>by rwa[cz.dB ρ _ hx] at h
  have hnb:∀x:Pos,x.num<σ.next.num->x≠σ.next:=fun x hx e=>by subst e;exact Nat.lt_irrefl _ hx
  have wr2:∀r,Wr ρ (fa σ b (.row cells' e false) vb (.row vc ve false)) r->r=l.cZ∨r=lv.cZ:=fun r ⟨x,q,lx,h1,h2,h3,h4⟩=>by
    rw[Dc] at h1
    by_cases ev:x=vb
    · subst ev;rw[hlv] at h3;cases h3;exact .inr h4.symm
    · rw[if_neg ev] at h1
      by_cases eb:x=b
      · subst eb;rw[hlb] at h3;cases h3;exact .inl h4.symm
      · rw[if_neg eb] at h1;cases h1
  have wrs:∀r,Wr ρ (fa σ b (.row cells' e false) vb (.row vc ve false)) r->Wr ρ σ r:=fun r h=>by
    rcases wr2 r h with rfl | rfl
    · exact⟨b,_,l,hb,rfl,hlb,rfl⟩
    · exact⟨vb,_,lv,hvb,rfl,hlv,rfl⟩
  have away:∀x q lx,x≠b->x≠vb->σ.m.get x=some q->ρ x=some lx->lx.cZ≠l.cZ/\lx.cZ≠lv.cZ:=fun x q lx h1 h2 h3 h4=>by
    constructor
    · intro he
      have:=(hi.inj x b q _ lx l h3 hb h4 hlb he h1).2;simp[bQ.ro] at this
    · intro he
      have:=(hi.inj x vb q _ lx lv h3 hvb h4 hlv he h2).2;simp[bQ.ro] at this
  have hnew:∀x q lx,x≠b->σ.m.get x=some q->ρ x=some lx->lx.cZ≠l₁.cZ:=fun x q lx h1 h3 h4 he=>by
    have hlt:=hi.cZ x lx h4;have hw:Wr ρ₁ σ₁ lx.cZ:=⟨b₁,_,l₁,g₁,rfl,hl₁,he.symm⟩
    by_cases h2:x=vb
    · subst h2
      rw[hlv] at h4;cases h4;have hlv₁:ρ₁ x=some lv:=s₁.ext x (hi.Co hlv) |>.trans hlv;have:=(i₁.inj b₁ x _ _ l₁ lv g₁ gv hl₁ hlv₁ he.symm hne₁).1;simp[bQ.ro] at this
    · obtain⟨a1,a2⟩:=away x q lx h1 h2 h3 h4
      rcases wr2 _ (s₁.wr _ hw hlt) with h | h
      · exact a1 h
      · exact a2 h
  have flatObj:∀{l':Loc} {c:List AV} {e':Nat} {y:Obj} {ρa ρb:cz},ep c=true->gn ρa l' (.row c e' false) y->gn ρb l' (.row c e' false) y:=fun hc ho=>by
    obtain⟨c',fr,h1,h2,h3,h4,h5⟩:=ho;exact⟨c',fr,h1,h2,h3,fun i v hv=>let ⟨z,hz,hzv⟩:=h4 i v hv;⟨z,hz,mN (jR hc v (gB_ hv)) hzv⟩,h5⟩
  constructor
  · refine⟨fun x hx=>?_,fun x lx hlx=>?_,fun x q lx hx hlx=>?_,fun x y q r lx ly hx hy hlx hly he hne'=>?_⟩
    · have hx':σ.next.num+1<=x.num:=by simpa [aD.alloc,aD.drop,Pos.iv] using hx
      have hxn:x≠σ.next:=fun e=>by subst e;omega
      have hf:=hi.fresh x (by omega);rw[cz.dB ρ _ hxn,hget x hxn];exact⟨hf.1,by split<;>simp[hf.2]⟩
    · by_cases hxn:x=σ.next
      · subst hxn;rw[cz.b0] at hlx;cases hlx;exact i₁.cZ b₁ l₁ hl₁
      · exact Nat.lt_of_lt_of_le (hi.cZ x lx (hold x lx hxn hlx)) s₁.size
    · by_cases hxn:x=σ.next
      · subst hxn
        rw[hsame] at hx;rw[cz.b0] at hlx;cases hx;cases hlx;obtain⟨c,fr,h1,h2,h3,h4,h5⟩:=i₁.row g₁ hl₁;refine⟨_,h1,c,fr,rfl,?_,?_,fun i v hv=>?_,fun _ j hj=>h5 rfl j (by have hj':l₁.sh+o₁<=j:=hj;omega)⟩
        · show c.size=l₁.sh+o₁+(l₁.cells-o₁);omega
        · show((cs₁.drop o₁).take k).length<=l₁.cells-o₁;rw[lT_,lD_];omega
        · have hv':cs₁[o₁+i]?=some v:=by
            rw[List.getElem?_take] at hv;split at hv
            · rwa[List.getElem?_drop] at hv
            · cases hv
          obtain⟨y,hy,hyv⟩:=h4 _ v hv';exact⟨y,by rw[<-Nat.add_assoc] at hy;exact hy,mN (jR hfr v (gB_ hv)) hyv⟩
      · obtain⟨hxb,hx'⟩:=nr x q hxn hx
        have hlx':=hold x lx hxn hlx
        by_cases hxv:x=vb
        · subst hxv
          rw[hvb] at hx';cases hx';rw[hlv] at hlx';cases hlx';have hlv₁:ρ₁ x=some lv:=(s₁.ext x (hi.Co hlv)).trans hlv;obtain⟨y,hy,hr⟩:=i₁.obj x _ lv gv hlv₁;exact⟨y,hy,flatObj hfv hr⟩
        · obtain⟨y,hy,hr⟩:=hi.obj x q lx hx' hlx'
          refine⟨y,?_,hr.mono hle⟩;rw[s₁.frame _ (hi.cZ x lx hlx') (fun h=>?_)]
          · exact hy
          · obtain⟨a1,a2⟩:=away x q lx hxb hxv hx' hlx'
            rcases wr2 _ h with h | h
            · exact a1 h
            · exact a2 h
    · by_cases e1:x=σ.next<;>by_cases e2:y=σ.next
      · exact absurd (e1.trans e2.symm) hne'
      · subst e1
        rw[cz.b0] at hlx;cases hlx;obtain⟨hyb,hy'⟩:=nr y r e2 hy;exact absurd he.symm (hnew y r ly hyb hy' (hold y ly e2 hly))
      · subst e2
        rw[cz.b0] at hly;cases hly;obtain⟨hxb,hx'⟩:=nr x q e1 hx;exact absurd he (hnew x q lx hxb hx' (hold x lx e1 hlx))
      · exact hi.inj x y q r lx ly (nr x q e1 hx).2 (nr y r e2 hy).2 (hold x lx e1 hlx) (hold y ly e2 hly) he hne'
  · refine⟨fun x hx=>cz.dB ρ _ (hnb x hx),by simp[aD.alloc,aD.drop,Pos.iv],s₁.size,fun r hr hn=>s₁.frame r hr fun h=>hn (wrs r h),?_,s₁.tape,s₁.os,s₁.out⟩
    rintro r ⟨x,q,lx,h1,h2,h3,rfl⟩ hr
    by_cases e1:x=σ.next
    · subst e1
      rw[cz.b0] at h3;cases h3;exact wrs _ (s₁.wr _ ⟨b₁,_,l₁,g₁,rfl,hl₁,rfl⟩ hr)
    · exact⟨x,q,lx,(nr x q e1 h1).2,h2,hold x lx e1 h3,rfl⟩
theorem Cb (hi:Inv ρ σ w) {b vb:Pos} {cells cells' vc:List AV} {e ve:Nat} {l lv:Loc} (hb:σ.m.get b=some (.row cells e false)) (hvb:σ.m.get vb=some (.row vc ve false)) (hlb:ρ b=some l) (hlv:ρ vb=some lv)
    (hne:b≠vb) {ρ₁:cz} {σ₁:aD} {w₁:World} (i₁:Inv ρ₁ σ₁ w₁) (s₁:dZ ρ (fa σ b (.row cells' e false) vb (.row vc ve false)) w ρ₁ σ₁ w₁) {b₁:Pos} {l₁:Loc} {cs₁:List AV} {o₁ k:Nat}
    (g₁:σ₁.m.get b₁=some (.row cs₁ e false)) (hl₁:ρ₁ b₁=some l₁) (gv:σ₁.m.get vb=some (.row vc ve false)) (hne₁:b₁≠vb) (hfv:ep vc=true) (hk:o₁+k<=cs₁.length) (hfr:ep ((cs₁.drop o₁).take k)=true):
    Inv (ρ.with σ.next ⟨l₁.cZ,l₁.sh+o₁,l₁.cells-o₁⟩) ((σ.drop b).alloc (.row ((cs₁.drop o₁).take k) e false)) w₁/\
      dZ ρ σ w (ρ.with σ.next ⟨l₁.cZ,l₁.sh+o₁,l₁.cells-o₁⟩) ((σ.drop b).alloc (.row ((cs₁.drop o₁).take k) e false)) w₁:=hi.of (EL hi hb hvb hlb hlv hne i₁ s₁ g₁ hl₁ gv hne₁ hfv hk hfr)
theorem Cn {r:KR} {v:AV} {σ':aD} (h:sB r= .ret v σ'):r= .ret v σ':=by
  unfold sB at h;split at h
  · cases h
  · exact h
theorem Cm (r:KR) (v:AV) (σ':aD):sB r≠ .iU v σ':=by
  unfold sB;split
  · intro h;cases h
  · rename_i hn
    intro h;exact hn _ _ h
theorem B4 {ih:iE} (hS:Sound P G ih) {f:Nat} {args:List AV} {xs:Array Value} {σ':aD} {v:AV} (h:Gk P G ih f args σ= .ret v σ') (hi:Inv ρ σ w) (hg:GR ρ G) (hx:cG ρ args xs.toList)
    (rl:Option Nat) (m:Nat) {R:Ending->World->Prop} (hR:∀(ρ':cz) (w':World) (x:Value),Inv ρ' σ' w'->dZ ρ σ w ρ' σ' w'->VR ρ' v x->R (.returned x) w'):CallsIn (jq rl) m P f xs w R:=by
  unfold Gk at h;split at h
  · rename_i b off n sz i vb voff q mc
    split at h
    · rename_i cells e vc ve hb hvb
      rw[a0] at h;split at h
      · rename_i hc
        simp only[bA_,nE_,Nat.beq_eq,bz] at hc;obtain⟨hne,hn1,hq1,hfi,hfv,hlen⟩:=hc;subst hq1;have hne':b≠vb:=fun e=>by subst e;rw[nA] at hne;simp at hne
        split at h
        · rename_i n1 r1 n2 r2 hr1 hr2
          rw[a0] at h;split at h
          · rename_i hq
            rw[bA_] at hq;have en:=nB hq.1;have er:=kY hq.2;subst en;subst er;cases h;obtain⟨x1,rr,e1,hs,hx2⟩:=hx.cons_inv;obtain⟨x2,rr',rfl,hiv,hx3⟩:=hx2.cons_inv;obtain⟨x3,rr'',rfl,hvv,hx4⟩:=hx3.cons_inv;have:=hx4.ee;subst this;simp only[VR] at hs;obtain⟨l,hl,hd⟩:=hs
            have hd':∃c,x1= .slice (some ⟨l.cZ,l.sh+off,none⟩) n c/\n<=c/\off+c*sz=l.cells:=by
              rcases hd with h | ⟨h0,_⟩
              · exact h
              · omega
            obtain⟨c,rfl,hnc,hcells⟩:=hd';have hvv':=hvv;simp only[VR] at hvv';obtain⟨lv,hlv,_⟩:=hvv'
            have go:∀(cells':List AV) (cap:rZ) (okc:rZ->Nat->Bool),(∀x,gn ρ l (.row cells e false) x->gn ρ l (.row cells' e false) x)->
                tI vb vc ve e sz (mH P G ih f [.slice b off n cap,i,.slice vb voff 1 (.known mc)] (fa σ b (.row cells' e false) vb (.row vc ve false))) okc=some (n1,r1)->
                VR ρ (.slice b off n cap) (.slice (some ⟨l.cZ,l.sh+off,none⟩) n c)->
                (∀c1 b1 o1 n1 l1 ρ1 x,okc c1 n1=true->1<=n1->ρ1 b1=some l1->VR ρ1 (.slice b1 o1 n1 c1) x->∃c',x= .slice (some ⟨l1.cZ,l1.sh+o1,none⟩) n1 c'/\n1<=c'/\o1+c'*sz=l1.cells)->
                CallsIn (jq rl) m P f xs w R:=by
              intro cells' cap okc hobj hres hcap hok;unfold tI at hres;split at hres
              · rename_i b1 o1 n1' c1 σ1 hcall
                split at hres
                · rename_i cs1 e1' vc1 ve1 g1 gv
                  rw[a0] at hres;split at hres
                  · rename_i hcc
                    simp only[bA_,nE_,Nat.beq_eq,bz] at hcc;obtain⟨k1,k2,k3,k4,k5,k6,k7,k8⟩:=hcc;cases hres;have hne1:b1≠vb:=fun e=>by subst e;rw[nA] at k2;simp at k2
                    have ev:=kY k3;subst ev;subst k4;subst k5;have hiL:=I6 hi (o₁:=.row cells' e false) hb hvb hl rfl hobj;refine lJ hS hcall hiL hg ?_ rl m fun ρ1 w1 x i1 s1 hvx=>?_
                    · rw[e1]
                      exact cG.cons hcap (cG.cons hiv (cG.cons hvv cG.nil))
                    · obtain⟨l1,hl1⟩:∃l1,ρ1 b1=some l1:=by
                        cases c1<;>simp only[VR] at hvx
                        · obtain⟨l1,hl1,_⟩:=hvx;exact⟨l1,hl1⟩
                        · obtain⟨l1,hl1,_⟩:=hvx;exact⟨l1,hl1⟩
                        · obtain⟨l1,hl1,_⟩:=hvx;exact⟨l1,hl1⟩
                      obtain⟨c',rfl,hc1,hc2⟩:=hok c1 b1 o1 n1 l1 ρ1 x k1 k6 hl1 hvx;rw[dp,dO] at k8 hR;obtain⟨iJ,sJ⟩:=Cb (k:=n1*sz) hi hb hvb hl hlv hne' i1 s1 g1 hl1 gv hne1 hfv k7 k8;refine hR _ w1 _ iJ sJ ?_;simp only[VR];refine⟨_,cz.b0 _ _ _,.inl ⟨c',rfl,hc1,?_⟩⟩;show 0+c'*sz=l1.cells-o1;omega
                  · cases hres
                · cases hres
              · cases hres
            by_cases hcn:c=n
            · subst hcn
              refine go cells (.known c) (Ca sz) (fun _ h=>h) hr1 (by simp only[VR];exact⟨l,hl,rfl⟩) fun c1 b1 o1 n1 l1 ρ1 x h1 h2 h3 h4=>?_
              unfold Ca at h1;split at h1
              · rename_i s
                have:=nB h1;subst this;simp only[VR] at h4;obtain⟨l1',h5,⟨c',h6,h7,h8⟩ | ⟨h0,_⟩⟩:=h4
                · rw[h3] at h5;cases h5;exact⟨c',h6,h7,h8⟩
                · omega
              · cases h1
            · have hlt:n+1<=c:=by omega
              refine go (fD (takeN cells (off+n*sz)) (DC sz .any)) (.least (Nat.succ n) sz) (yl sz) (fun x ho=>?_) hr2 (by simp only[VR];exact⟨l,hl,c,rfl,hlt,hcells⟩) fun c1 b1 o1 n1 l1 ρ1 x h1 h2 h3 h4=>?_
              · obtain⟨cc,fr,h1,h2,h3,h4,h5⟩:=ho
                have hmul:(n+1)*sz<=c*sz:=nM_ _ hlt;have hsz:(n+1)*sz=n*sz+sz:=Nat.succ_mul n sz;refine⟨cc,fr,h1,h2,?_,fun j v hv=>?_,h5⟩
                · rw[dw,dp,vI,lA_,lT_,List.length_replicate];omega
                · rw[dw,dp,vI] at hv
                  by_cases hj:j<off+n*sz
                  · rw[gL_ (by rw[lT_];omega),List.getElem?_take,if_pos hj] at hv
                    exact h4 j v hv
                  · have hj2:j<(cells.take (off+n*sz)++List.replicate sz AV.any).length:=(gA.1 hv).1
                    rw[lA_,lT_,List.length_replicate] at hj2;rw[gR_ (by rw[lT_];omega),List.getElem?_replicate] at hv;split at hv
                    · cases hv
                      have:l.sh+j<cc.size:=by omega
                      exact⟨cc[l.sh+j],aG_ this,by simp only[VR]⟩
                    · cases hv
              · unfold yl at h1
                split at h1
                · rename_i a s
                  rw[bA_,nE_] at h1;have:=nB h1.1;subst this;simp only[VR] at h4;obtain⟨l1',h5,c',h6,h7,h8⟩:=h4;rw[h3] at h5;cases h5;exact⟨c',h6,Nat.le_trans h1.2 h7,h8⟩
                · cases h1
          · cases h
        · cases h
      · cases h
    · cases h
  · exact lJ hS h hi hg hx rl m hR
theorem GR.size (hi:Inv ρ σ w) (hg:GR ρ G):G.gl<=w.heap.size:=by
  cases hgl:G.gl with
  | zero=>exact Nat.zero_le _
  | succ g=>
    obtain⟨c,hc⟩:=hg g (by omega);have:=hi.cZ _ _ hc;exact this
theorem rm (hi:Inv ρ σ w) (hg:GR ρ G):∀(l:List (Nat×List AV)),jE G.gl σ l=true->∀x∈l,jZ w x
  | [],_,x,hx=>by cases hx
  | y::l,h,x,hx=>by
    have h':(bif Nat.ble (Nat.succ y.1) G.gl then(match σ.m.get y.1 with
      | some (.row cells _ true)=>bif ep y.2 then(bif kB cells y.2 then jE G.gl σ l else false) else false
      | _=>false) else false)=true:=h
    rw[a0] at h';split at h'
    · rename_i hlt
      rw[nE_] at hlt;split at h'
      · rename_i cells e hb
        rw[a0] at h';split at h'
        · rename_i hf
          rw[a0] at h';split at h'
          · rename_i he
            have:=kY he;subst this;rcases mQ_.1 hx with rfl | hx
            · obtain⟨cn,hc⟩:=hg x.1 hlt
              obtain⟨c,fr,h1,h2,h3,h4,_⟩:=hi.row hb hc;have h2':c.size=cn:=by simpa using h2
              have h3':x.2.length<=cn:=h3;refine⟨c,e,fr,h1,by rw[h2'];exact h3',fun i v hv=>?_⟩;obtain⟨z,hz,hzv⟩:=h4 i v hv;simp only[nA_] at hz;exact⟨z,hz,mN (jR hf v (gB_ hv)) hzv⟩
            · exact rm hi hg l h' x hx
          · cases h'
        · cases h'
      · cases h'
    · cases h'
def HL (σ:aD) (g:Nat):TypeId:=
  match σ.m.get g with
  | some (.row _ e _)=>e
  | _=>0
theorem uW {gl:Nat}:∀(l:List (Nat×List AV)),jE gl σ l=true->∀x∈l,σ.m.get x.1=some (.row x.2 (HL σ x.1) true)
  | [],_,x,hx=>by cases hx
  | y::l,h,x,hx=>by
    have h':(bif Nat.ble (Nat.succ y.1) gl then(match σ.m.get y.1 with
      | some (.row cells _ true)=>bif ep y.2 then(bif kB cells y.2 then jE gl σ l else false) else false
      | _=>false) else false)=true:=h
    rw[a0] at h';split at h'
    · split at h'
      · rename_i cells e hb
        rw[a0] at h';split at h'
        · rw[a0] at h'
          split at h'
          · rename_i he
            have:=kY he;rcases mQ_.1 hx with rfl | hx
            · unfold HL;rw[hb,this]
            · exact uW l h' x hx
          · cases h'
        · cases h'
      · cases h'
    · cases h'
theorem Ci {e:ME} (ha:Ml P G.gl G.laid e) {f:Nat} {args:List AV} {xs:Array Value} (hh:Gt G.gl G.laid e f args σ=true) (hi:Inv ρ σ w) (hg:GR ρ G) (hx:cG ρ args xs.toList)
    (rl:Option Nat) (m:Nat) {R:Ending->World->Prop} (hR:∀(ρ':cz) (w':World) (x:Value),Inv ρ' (Ac σ e) w'->dZ ρ σ w ρ' (Ac σ e) w'->VR ρ' e.v x->R (.returned x) w'):CallsIn (jq rl) m P f xs w R:=by
  unfold Gt at hh;simp only[a0] at hh;split at hh
  case isFalse=>cases hh
  rename_i hf;split at hh
  case isFalse=>cases hh
  rename_i hargs;split at hh
  case isFalse=>cases hh
  rename_i hnext;split at hh
  case isFalse=>cases hh
  rename_i hlaid;have ef:=nB hf;have ea:=zr hargs;have en:σ.next=e.next:=nB hnext;subst ef;subst ea;obtain⟨hwf,hans⟩:=ha;have hsub:=AR hh;have hlg:=uW G.laid hlaid;simp only[Mv,bA_,aE_,nE_,Bool.not_eq_true',Bool.or_eq_true,List.any_eq_true] at hwf;obtain⟨w1,w2,w3,w4,w5⟩:=hwf
  have hB:∀b o,(pP G.laid (HL σ) e).m.get b=some o->σ.m.get b=some o:=fun b o h=>by
    rcases wI h with ⟨x,hx,rfl,rfl⟩ | ⟨x,hx,rfl,rfl⟩
    · exact hsub x hx
    · exact hlg x hx
  have hBw:∀b o,(pP G.laid (HL σ) e).m.get b=some o->o.ro=false->∃x∈e.l,x.1=b:=fun b o h hro=>by
    rcases wI h with ⟨x,hx,h1,_⟩ | ⟨x,hx,_,rfl⟩
    · exact⟨x,hx,h1⟩
    · cases hro
  have hiBc:tT ρ (pP G.laid (HL σ) e) w:=by
    refine⟨fun b hb=>?_,hi.cZ,fun b o l h1 h2=>hi.obj b o l (hB b o h1) h2,fun b b' o o' l l' h1 h2 h3 h4=>hi.inj b b' o o' l l' (hB b o h1) (hB b' o' h2) h3 h4⟩;have hb':σ.next.num<=b.num:=by rw[en];exact hb
    have hfr:=hi.fresh b hb';refine⟨hfr.1,?_⟩;cases h:(pP G.laid (HL σ) e).m.get b with
    | none=>rfl
    | some o=>rw[hB b o h] at hfr;cases hfr.2
  have hWr:∀r,Wr ρ (pP G.laid (HL σ) e) r->Wr ρ σ r:=fun r ⟨b,o,l,h1,h2,h3,h4⟩=>⟨b,o,l,hB b o h1,h2,h3,h4⟩
  have hiB:Inv ρ (pP G.laid (HL σ) e) w:=⟨hiBc,hi.nr.size,hi.nr.same,fun r hr hw=>hi.nr.no r hr (hWr r hw)⟩;refine hans (HL σ) ρ w xs rl m R hiB hg hx fun ρ' σr w' x hl' hn' ir sr hv=>?_
  have hold:∀b o,(Ac σ e).m.get b=some o->(∃x∈e.l',x.1=b/\x.2=o/\σr.m.get b=some o/\o.ro=false)∨((∀x∈e.l,x.1≠b)/\σ.m.get b=some o/\b<e.next):=fun b o h=>by
    rcases oD h with ⟨x,hx,h1,h2⟩ | ⟨_,h⟩
    · refine .inl ⟨x,hx,h1,h2,?_,?_⟩
      · rw[<-h1,<-h2];exact hl' x hx
      · rw[<-h2];exact(w5 x hx).2.2.1
    · obtain⟨h1,h2⟩:=s7 h
      refine .inr ⟨h1,h2,?_⟩;apply Classical.byContradiction;intro hn;have:=hi.fresh b (by rw[en];exact Nat.not_lt.1 hn);rw[h2] at this;cases this.2
  have hsame:∀b,b<e.next->ρ' b=ρ b:=fun b hb=>sr.ext b hb
  have hplace:∀b o lb,(∀x∈e.l,x.1≠b)->σ.m.get b=some o->ρ b=some lb->¬Wr ρ (pP G.laid (HL σ) e) lb.cZ:=fun b o lb h1 h2 h3 ⟨b2,o2,l2,k1,k2,k3,k4⟩=>by
    obtain⟨x,hx,e2⟩:=hBw b2 o2 k1 k2;have hne:b≠b2:=fun e'=>h1 x hx (e2.trans e'.symm)
    have:=(hi.inj b b2 o o2 lb l2 h2 (hB b2 o2 k1) h3 k3 k4.symm hne).2;rw[k2] at this;cases this
  have hle:=sr.le hiB
  have fin:tT ρ' (Ac σ e) w'/\dZ ρ σ w ρ' (Ac σ e) w':=by
   refine⟨⟨fun b hb=>?_,ir.cZ,fun b o l h1 h2=>?_,fun b b' o o' l l' h1 h2 h3 h4 he hne=>?_⟩,⟨fun b hb=>?_,?_,sr.size,fun r hr hnw=>sr.frame r hr fun hw=>hnw (hWr r hw),fun r hw hr=>?_,sr.tape,sr.os,sr.out⟩⟩
   · have hb':e.next'<=b:=hb
     refine⟨(ir.fresh b (by rw[hn'];exact hb')).1,?_⟩;cases h:(Ac σ e).m.get b with
     | none=>rfl
     | some o=>
       rcases hold b o h with ⟨x,hx,h1,_⟩ | ⟨_,_,h3⟩
       · have:=(w5 x hx).2.1
         rw[qW,h1] at this;exact absurd this (Nat.not_lt.2 hb')
       · exact absurd (Nat.lt_of_lt_of_le h3 w2) (Nat.not_lt.2 hb')
   · rcases hold b o h1 with ⟨x,_,_,_,hr,_⟩ | ⟨k1,k2,k3⟩
     · exact ir.obj b o l hr h2
     · rw[hsame b k3] at h2
       obtain⟨z,hz,hzr⟩:=hi.obj b o l k2 h2;exact⟨z,by rw[sr.frame _ (hi.cZ b l h2) (hplace b o l k1 k2 h2)];exact hz,hzr.mono hle⟩
   · have cross:∀(b b':Nat) (o o':bQ) (l l':Loc),σr.m.get b=some o->o.ro=false->(∀x∈e.l,x.1≠b')->σ.m.get b'=some o'->b'<e.next->ρ' b=some l->ρ' b'=some l'->l.cZ=l'.cZ->False:=fun b b' o o' l l' k1 k2 k3 k4 k5 k6 k7 k8=>by
       rw[hsame b' k5] at k7;have hlt:=hi.cZ b' l' k7;have:=sr.wr l.cZ ⟨b,o,l,k1,k2,k6,rfl⟩ (by rw[k8];exact hlt);rw[k8] at this;exact hplace b' o' l' k3 k4 k7 this
     rcases hold b o h1 with ⟨x,_,_,_,hr,hro⟩ | ⟨k1,k2,k3⟩
     · rcases hold b' o' h2 with ⟨x',_,_,_,hr',_⟩ | ⟨k1',k2',k3'⟩
       · exact ir.inj b b' o o' l l' hr hr' h3 h4 he hne
       · exact(cross b b' o o' l l' hr hro k1' k2' k3' h3 h4 he).elim
     · rcases hold b' o' h2 with ⟨x',_,_,_,hr',hro'⟩ | ⟨k1',k2',k3'⟩
       · exact(cross b' b o' o l' l hr' hro' k1 k2 k3 h4 h3 he.symm).elim
       · rw[hsame b k3] at h3
         rw[hsame b' k3'] at h4;exact hi.inj b b' o o' l l' k2 k2' h3 h4 he hne
   · exact hsame b (by have:b<σ.next:=hb;rw[en] at this;exact this)
   · show σ.next<=e.next'
     rw[en];exact w2
   · obtain⟨b,o,l,h1,h2,h3,rfl⟩:=hw
     rcases hold b o h1 with ⟨x,_,_,_,hr',hro⟩ | ⟨k1,k2,k3⟩
     · exact hWr _ (sr.wr _ ⟨b,o,l,hr',hro,h3,rfl⟩ hr)
     · rw[hsame b k3] at h3
       exact⟨b,o,l,k2,h2,h3,rfl⟩
  exact hR ρ' w' x (hi.of fin).1 fin.2 hv
theorem uG {gl:Nat} {laid:List (Nat×List AV)} {f:Nat} {args:List AV}:∀{mem:List ME} {e:ME},w0 gl laid mem f args σ=some e->e∈mem/\Gt gl laid e f args σ=true
  | [],e,h=>by cases h
  | y::mem,e,h=>by
    have h':(bif Gt gl laid y f args σ then some y else w0 gl laid mem f args σ)=some e:=h;rw[a0] at h';split at h'
    · rename_i hh;cases h';exact⟨mS_,hh⟩
    · obtain⟨h1,h2⟩:=uG h'
      exact⟨mC_ _ h1,h2⟩
theorem qp {ih:iE} (hS:Sound P G ih) {f:Nat} {args:List AV} {xs:Array Value} {σ':aD} {v:AV} (h:kU P G ih f args σ= .ret v σ') (hi:Inv ρ σ w) (hg:GR ρ G) (hx:cG ρ args xs.toList)
    (rl:Option Nat) (m:Nat) {R:Ending->World->Prop} (hR:∀(ρ':cz) (w':World) (x:Value),Inv ρ' σ' w'->dZ ρ σ w ρ' σ' w'->VR ρ' v x->R (.returned x) w'):CallsIn (jq rl) m P f xs w R:=by
  unfold kU at h;cases hk:G.Gz f args σ with
  | some u=>
    rw[hk] at h;dsimp only at h;rw[a0] at h;split at h
    · rename_i hf
      cases h;refine qw rl (callsIn_wide.2 ?_);refine(hS.cx.Gz f args σ v hk ρ w xs hi hx).mono fun e w' ⟨x,ρ',he,hv,i',s'⟩=>?_
      subst he;exact hR ρ' w' x i' s' hv
    · cases h
  | none=>
  rw[hk] at h;dsimp only at h;cases ht:G.Hq f args with
  | some u=>
    rw[ht] at h;dsimp only at h;rw[a0] at h;split at h
    · rename_i hf
      simp only[bA_] at hf;obtain⟨hf1,hf2,hf3⟩:=hf;cases h;refine qw rl (callsIn_wide.2 ?_);refine(hS.cx.Hq f args v ht w xs (GR.size hi hg) ⟨hi.nr.size,hi.nr.same⟩ (rm hi hg _ hf3) (sR hf1 hx)).mono fun e w' ⟨x,he,hv,hk⟩=>?_
      subst he;obtain⟨i',s'⟩:=hk.inv hi;exact hR ρ w' x i' s' (mN hf2 hv)
    · cases h
  | none=>
    rw[ht] at h;dsimp only at h;split at h
    · rename_i e he
      cases h;obtain⟨h1,h2⟩:=uG he;exact Ci (hS.cx.mem e h1) h2 hi hg hx rl m hR
    split at h
    · cases h
    rw[a0] at h;split at h
    · have h:=Cn h
      unfold Gl at h;rw[a0] at h;split at h
      · exact lJ hS h hi hg hx rl m hR
      · exact B4 hS h hi hg hx rl m hR
    · exact lJ hS h hi hg hx rl m hR
theorem FK {ih:iE} (hS:Sound P G ih) {f:Nat} {args:List AV} {xs:Array Value} {σ':aD} {v:AV} (h:kU P G ih f args σ= .iU v σ') (hi:Inv ρ σ w) (hg:GR ρ G) (hx:cG ρ args xs.toList)
    (rl:Option Nat) (m:Nat) {R:Ending->World->Prop} (hR:∀(ρ':cz) (w':World) (x:Value),Inv ρ' σ' w'->dZ ρ σ w ρ' σ' w'->VR ρ' v x->R (.panicked [{v:=x,recovered:=false}]) w'):CallsIn (jq rl) m P f xs w R:=by
  unfold kU at h;cases hk:G.Gz f args σ with
  | some u=>rw[hk] at h;dsimp only at h;rw[a0] at h;split at h<;>cases h
  | none=>
  rw[hk] at h;dsimp only at h;split at h
  · rw[a0] at h
    split at h<;>cases h
  · split at h
    · cases h
    split at h
    · cases h
    rw[a0] at h;split at h
    · exact absurd h (Cm _ _ _)
    · exact wK hS h (fun n h=>by cases h) hi hg hx rl m fun ρ' w' E i s ⟨x,hE,hv⟩=>by subst hE;exact hR ρ' w' x i s hv
theorem xf (e:Ex) (hp:z8 e=false):(sn e).isNone=y6 e:=by cases e<;>first | rfl | cases hp
theorem LH.Ip {e:Ex} {E:Exit} (hp:z8 e=false) (h:LH ρ e E):E=Ev.Ip e:=by cases e<;>first | exact h | cases hp
theorem Cy {l:Nat} {R:Ending->World->Prop} {e:Ex} (hp:z8 e=false) {a:Act} (h:∃v w',(Instr.endRound l (sn e)).run P w= .ok v w'/\R (.returned v) w'):roundPost P l R (Ip e) a w:=by
  cases e<;>first | exact h | cases hp
theorem AF {ih:iE} (hS:Sound P G ih) {b:Pos} {l:Loc} {args:List AV} {xs:Array Value} {σ':aD} {v:AV} (h:nz ih b args σ= .ret v σ') (hi:Inv ρ σ w) (hg:GR ρ G) (hx:cG ρ args xs.toList) (hl:ρ b=some l)
    (rl:Option Nat) (m:Nat) {R:Ending->World->Prop} (hR:∀(ρ':cz) (w':World) (x:Value),Inv ρ' σ' w'->dZ ρ σ w ρ' σ' w'->VR ρ' v x->R (.returned x) w'):
    ∃f tmps assign body,(Instr.yield l.cZ xs).run P w= .ok (.round l.cZ f tmps assign body) w/\RoundIn (jq rl) m P l.cZ f tmps assign body w R:=by
  unfold nz at h;cases hb:σ.m.get b with
  | none=>rw[hb] at h;cases h
  | some o=>
  rw[hb] at h;cases o with
  | loop state pending tmps n params assign body df=>
    dsimp only at h;cases hp:yB n params args tmps with
    | none=>rw[hp] at h;cases h
    | some t=>
    rw[hp] at h;dsimp only at h;obtain⟨x,hh,fn,tmps',l',rfl,hdf,htm⟩:=hi.obj b _ l hb hl;obtain⟨hlen,ht⟩:=rI params args tmps t tmps' xs.toList hp htm hx;refine⟨fn,_,assign,body,run_yield hh (by simpa using hlen.symm),?_⟩
    have hfold:((params.toArray.zip xs).foldl (fun tmps (t,a)=>tmps.setIfInBounds t a) tmps')=(params.zip xs.toList).foldl (fun tmps (t,a)=>tmps.setIfInBounds t a) tmps':=by
      rw[<-Array.foldl_toList,Array.toList_zip]
    refine roundIn_of_wpIn (iy rl _) ?_;rw[Is];dsimp only;rw[hfold];cases hc:ih assign t n [] (some b) σ with
    | err k=>rw[hc] at h;cases h
    | ok e t₁ d₁ σ₁=>
    rw[hc] at h;cases e with
    | normal=>
      cases d₁ with
      | nil=>
        dsimp only at h;refine hS.run assign t n [] (some b) σ _ t₁ [] σ₁ hc ρ w _ (some l.cZ) m _ hi hg ht rfl ⟨l,hl,rfl⟩ fun ρ₁ w₁ a₁ hi₁ st₁ ht₁ hd₁ E hE=>?_
        have hE:E= .normal:=hE;subst hE;have hl₁:=st₁.le hi b l hl;have hg₁:=hg.mono (st₁.le hi);show∃w₂,_;cases hb₁:σ₁.m.get b with
        | none=>rw[hb₁] at h;cases h
        | some o₁=>
        rw[hb₁] at h;cases o₁ with
        | loop state₁ p₁ tmps₁ n₁ params₁ assign₁ body₁ df₁=>
          cases state₁ with
          | ready=>
            dsimp only at h;obtain⟨x₁,hh₁,fn₁,tmps₁',l₁',rfl,hdf₁,htm₁⟩:=hi₁.obj b _ l hb₁ hl₁;obtain⟨inv₂,st₂⟩:=hi₁.putObj (o':=.loop .busy p₁ tmps₁ n₁ params₁ assign₁ body₁ df₁) hb₁ hl₁ rfl rfl (x:=.loop {state:=.busy,pending:=p₁,fn:=fn₁,tmps:=tmps₁',params:=params₁.toArray,assign:=assign₁,body:=body₁,defers:=l₁'.cZ}) ⟨fn₁,tmps₁',l₁',rfl,hdf₁,htm₁⟩;refine⟨_,run_beginRound hh₁ rfl,?_⟩;cases hc₂:ih body t₁ n [] (some b) (σ₁.setObj b (.loop .busy p₁ tmps₁ n₁ params₁ assign₁ body₁ df₁)) with
            | err k=>rw[hc₂] at h;cases h
            | ok e₂ t₂ d₂ σ₂=>
            rw[hc₂] at h;cases d₂ with
            | cons _ _=>cases h
            | nil=>
            dsimp only at h;cases hpan:z8 e₂ with
            | true=>rw[hpan] at h;cases h
            | false=>
            rw[hpan] at h;simp only[cond_false] at h;refine hS.run body t₁ n [] (some b) _ e₂ t₂ [] σ₂ hc₂ ρ₁ _ a₁ (some l.cZ) m _ inv₂ hg₁ ht₁ hd₁ ⟨l,hl₁,rfl⟩ fun ρ₃ w₃ a₃ hi₃ st₃ ht₃ hd₃ E hE=>?_
            have hE:=hE.Ip hpan;subst hE;have hl₃:=st₃.le inv₂ b l hl₁;cases hb₃:σ₂.m.get b with
            | none=>rw[hb₃] at h;cases h
            | some o₃=>
            rw[hb₃] at h;cases o₃ with
            | loop state₃ p₃ tmps₃ n₃ params₃ assign₃ body₃ df₃=>
              dsimp only at h;cases h;obtain⟨x₃,hh₃,fn₃,tmps₃',l₃',rfl,hdf₃,htm₃⟩:=hi₃.obj b _ l hb₃ hl₃;have ar:(if(sn e₂).isNone then LoopState.ready else .done)=rN e₂:=by cases e₂<;>first | rfl | cases hpan
              obtain⟨inv₄,st₄⟩:=hi₃.putObj (o':=.loop (rN e₂) (sn e₂) tmps₃ n₃ params₃ assign₃ body₃ df₃) hb₃ hl₃ rfl rfl
                (x:=.loop {state:=rN e₂,pending:=sn e₂,fn:=fn₃,tmps:=tmps₃',params:=params₃.toArray,assign:=assign₃,body:=body₃,defers:=l₃'.cZ}) ⟨fn₃,tmps₃',l₃',rfl,hdf₃,htm₃⟩
              refine Cy hpan ⟨.bool (y6 e₂),_,?_,hR ρ₃ _ _ inv₄ (((st₁.trans st₂).trans st₃).trans st₄) (by simp only[VR])⟩;rw[run_endRound _ hh₃,xf _ hpan];have hst':(if y6 e₂=true then LoopState.ready else .done)=rN e₂:=by rw[<-xf _ hpan];exact ar
              rw[hst']
            | _=>cases h
          | _=>cases h
        | _=>cases h
      | cons _ _=>cases h
    | _=>cases h
  | _=>cases h
theorem Ep {ih:iE} (hS:Sound P G ih) {o:Oper} {r:HR} {res:Result Next} {v:AV} {σ':aD} (hi:Inv ρ σ w) (hg:GR ρ G) (ho:wh P ρ σ w r res) (h:kA P G ih r= .ret v σ') (rl:Option Nat) (m:Nat) {a:Act} {next:Act->World->Prop} {Q:Exit->Act->World->Prop}
    (hn:∀(ρ':cz) (w':World) (x:Value),Inv ρ' σ' w'->dZ ρ σ w ρ' σ' w'->VR ρ' v x->next (a.put o.dst x) w'):o.uponIn (jq rl) m P a next Q res:=by
  cases ho with
  | val hv hi' st=>
    cases h;rw[Oper.uponIn_value];exact hn _ _ _ hi' st hv
  | skip hi' st=>
    cases h;rw[Oper.uponIn_skip];exact hn _ _ _ hi' st km
  | enter hv=>
    rw[Oper.uponIn_enter];exact⟨pb rl m,qp hS h hi hg hv rl _ fun ρ' w' x i s q=>hn ρ' w' x i s q⟩
  | round hv hl hr=>
    subst hr
    obtain⟨f,tmps,assign,body,h1,h2⟩:=AF hS h hi hg hv hl rl (m-1) (R:=fun
      | .returned v,w''=>next (a.put o.dst v) w''
      | .panicked chain,w''=>Q (.panic chain) a w''
      | .outgrown,_=>LetsOut Q) (fun ρ' w' x i s q=>hn ρ' w' x i s q)
    rw[h1,Oper.uponIn_round];exact⟨pb rl m,h2⟩
  | iU hv=>cases h
theorem Cw {ih:iE} {l:Pos} {args:List AV} {v:AV} {σ':aD}:nz ih l args σ≠ .iU v σ':=by
  intro h;unfold nz at h
  repeat' (first | (cases h;done) | (rw[a0] at h) | split at h)
theorem Ij {ih:iE} (hS:Sound P G ih) {o:Oper} {r:HR} {res:Result Next} {v:AV} {σ':aD} (hi:Inv ρ σ w) (hg:GR ρ G) (ho:wh P ρ σ w r res) (h:kA P G ih r= .iU v σ') (rl:Option Nat) (m:Nat) {a:Act} {next:Act->World->Prop} {Q:Exit->Act->World->Prop}
    (hn:∀(ρ':cz) (w':World) (x:Value),Inv ρ' σ' w'->dZ ρ σ w ρ' σ' w'->VR ρ' v x->Q (.panic [{v:=x,recovered:=false}]) a w'):o.uponIn (jq rl) m P a next Q res:=by
  cases ho with
  | val hv hi' st=>cases h
  | skip hi' st=>cases h
  | enter hv=>
    rw[Oper.uponIn_enter];exact⟨pb rl m,FK hS h hi hg hv rl _ fun ρ' w' x i s q=>hn ρ' w' x i s q⟩
  | round hv hl hr=>exact absurd h Cw
  | iU hv=>
    cases h;rw[Oper.uponIn_panic];exact hn _ _ _ hi (dZ.refl _ _ _) hv
theorem x9 {ih:iE} {r:HR} {v:AV} {σ':aD} (h:kA P G ih r= .iU v σ') (n:Nat):r≠ .err n:=by
  intro e;subst e;cases h
theorem IN {ih:iE} (hS:Sound P G ih) {ev:Operand->Option AV} {o:Oper} {a:Act} {v:AV} {σ':aD} (hi:Inv ρ σ w) (hg:GR ρ G) (hE:ER ρ ev a.eval o.op) (h:kA P G ih (dJ P G ev σ o.op)= .iU v σ') (rl:Option Nat) (m:Nat) {next:Act->World->Prop} {Q:Exit->Act->World->Prop}
    (hn:∀(ρ':cz) (w':World) (x:Value),Inv ρ' σ' w'->dZ ρ σ w ρ' σ' w'->VR ρ' v x->Q (.panic [{v:=x,recovered:=false}]) a w'):o.wpIn (jq rl) m P a w next Q:=by
  have hne:=x9 h;refine⟨fun f _=>iy rl f,?_⟩;rw[Oper.semAt_eq _ _ _ (lT hne)];exact Ij hS hi hg (mV hS.cx.ov hi hE rfl hne) h rl m hn
theorem zL {ih:iE} {r:HR} {v:AV} {σ':aD} (h:kA P G ih r= .ret v σ') (n:Nat):r≠ .err n:=by
  intro e;subst e;cases h
theorem Ap {ih:iE} (hS:Sound P G ih) {ev:Operand->Option AV} {o:Oper} {a:Act} {v:AV} {σ':aD} (hi:Inv ρ σ w) (hg:GR ρ G) (hE:ER ρ ev a.eval o.op) (h:kA P G ih (dJ P G ev σ o.op)= .ret v σ') (rl:Option Nat) (m:Nat) {next:Act->World->Prop} {Q:Exit->Act->World->Prop}
    (hn:∀(ρ':cz) (w':World) (x:Value),Inv ρ' σ' w'->dZ ρ σ w ρ' σ' w'->VR ρ' v x->next (a.put o.dst x) w'):o.wpIn (jq rl) m P a w next Q:=by
  have hne:=zL h;refine⟨fun f _=>iy rl f,?_⟩;rw[Oper.semAt_eq _ _ _ (lT hne)];exact Ep hS hi hg (mV hS.cx.ov hi hE rfl hne) h rl m hn
theorem sC {ih:iE} (hS:Sound P G ih) {ops:Array Oper} {n m:Nat} {d:List DE} (rl:Option Nat) {Q:Exit->Act->World->Prop} {e:Ex} {t':PT AV} {d':List DE} {σ':aD}:
    ∀(l:List Oper) (i:Nat),ops.toList.drop i=l->∀(t:PT AV) (σ:aD) (ρ:cz) (w:World) (a:Act),wu d (rE P G ih ops n d l t σ)= .ok e t' d' σ'->Inv ρ σ w->GR ρ G->TR ρ t n a.tmps->DR ρ d a.defers->
      (∀(ρ':cz) (w':World) (a':Act),Inv ρ' σ' w'->dZ ρ σ w ρ' σ' w'->TR ρ' t' n a'.tmps->DR ρ' d' a'.defers->Qx Q ρ' e a' w')->wpOpsIn (jq rl) m P ops Q (List.range' i l.length) a w
  | [],i,hl,t,σ,ρ,w,a,h,hi,hg,ht,hd,hQ=>by
    have h':CR.ok .normal t d σ= .ok e t' d' σ':=h;cases h';exact hQ ρ w a hi (dZ.refl _ _ _) ht hd _ rfl
  | o::l,i,hl,t,σ,ρ,w,a,h,hi,hg,ht,hd,hQ=>by
    have hoi:ops[i]?=some o:=by
      rw[<-aT_];have:(ops.toList.drop i)[0]?=some o:=by rw[hl];rfl
      simpa using this
    have hl':ops.toList.drop (i+1)=l:=by
      rw[<-List.drop_drop,hl];rfl
    have h':wu d (iw P G ih true ops n o t σ (rE P G ih ops n d l))= .ok e t' d' σ':=h;unfold iw at h';simp only[List.length_cons,List.range'_succ,wpOpsIn,hoi];cases hw:bu ops t o with
    | none=>rw[hw] at h';cases h'
    | some b=>
      rw[hw] at h';rw[nG hw ht];cases b with
      | false=>
        dsimp only at h';cases hp:cO t n o.dst unit with
        | none=>rw[hp] at h';cases h'
        | some t₁=>
          rw[hp] at h';simp only[Bool.false_eq_true,if_false];exact⟨fun f _=>iy rl f,sC hS rl l (i+1) hl' t₁ σ ρ w _ h' hi hg (ht.put hp km) (by rw[put_defers];exact hd) hQ⟩
      | true=>
        dsimp only at h';cases he:kA P G ih (dJ P G (bo G t) σ o.op) with
        | err k=>rw[he] at h';cases h'
        | iU v σ₁=>
          rw[he] at h';have h':CR.ok (.iU v) t d σ₁= .ok e t' d' σ':=h';cases h';simp only[if_true];refine IN hS hi hg (wE _ hg ht) he rl m fun ρ₁ w₁ x hi₁ st₁ hv=>?_
          have hle:=st₁.le hi;exact hQ ρ₁ w₁ a hi₁ st₁ (ht.mono hle) (hd.mono hle) _ ⟨x,rfl,hv⟩
        | ret v σ₁=>
          rw[he] at h';dsimp only at h';cases hp:cO t n o.dst v with
          | none=>rw[hp] at h';cases h'
          | some t₁=>
            rw[hp] at h';simp only[if_true];refine Ap hS hi hg (wE _ hg ht) he rl m fun ρ₁ w₁ x hi₁ st₁ hv=>?_
            have hle:=st₁.le hi
            exact sC hS rl l (i+1) hl' t₁ σ₁ ρ₁ w₁ _ h' hi₁ (hg.mono hle) ((ht.mono hle).put hp hv) (by rw[put_defers];exact hd.mono hle)
              fun ρ' w' a' i' s'=>hQ ρ' w' a' i' (st₁.trans s')
theorem EJ {o:Oper} (h:Df o=true):∃c,o.op= .defer c:=by
  unfold Df at h;split at h
  · rename_i c hc;exact⟨c,hc⟩
  · cases h
theorem lq (hov:∀g,G.ov g=true->m8 P g) {ops:Array Oper} {n m:Nat} {Q:Exit->Act->World->Prop} {e:Ex} {t':PT AV} {d':List DE} {σ':aD}:
    ∀(l:List Oper) (i:Nat),ops.toList.drop i=l->∀(d:List DE) (t:PT AV) (σ:aD) (ρ:cz) (w:World) (a:Act),Ku P G ops n l d t σ= .ok e t' d' σ'->Inv ρ σ w->GR ρ G->TR ρ t n a.tmps->DR ρ d a.defers->
      (∀(ρ':cz) (w':World) (a':Act),Inv ρ' σ' w'->dZ ρ σ w ρ' σ' w'->TR ρ' t' n a'.tmps->DR ρ' d' a'.defers->Qx Q ρ' e a' w')->wpOpsIn (jq none) m P ops Q (List.range' i l.length) a w
  | [],i,hl,d,t,σ,ρ,w,a,h,hi,hg,ht,hd,hQ=>by
    have h':CR.ok .normal t d σ= .ok e t' d' σ':=h;cases h';exact hQ ρ w a hi (dZ.refl _ _ _) ht hd _ rfl
  | o::l,i,hl,d,t,σ,ρ,w,a,h,hi,hg,ht,hd,hQ=>by
    have hoi:ops[i]?=some o:=by
      rw[<-aT_];have:(ops.toList.drop i)[0]?=some o:=by rw[hl];rfl
      simpa using this
    have hl':ops.toList.drop (i+1)=l:=by
      rw[<-List.drop_drop,hl];rfl
    have h':Kq P G ops n o d t σ (Ku P G ops n l)= .ok e t' d' σ':=h;unfold Kq at h';simp only[List.length_cons,List.range'_succ,wpOpsIn,hoi];cases hw:bu ops t o with
    | none=>rw[hw] at h';cases h'
    | some b=>
      rw[hw] at h';rw[nG hw ht];cases b with
      | false=>
        dsimp only at h';cases hp:cO t n o.dst unit with
        | none=>rw[hp] at h';cases h'
        | some t₁=>
          rw[hp] at h';simp only[Bool.false_eq_true,if_false];exact⟨fun f _=>iy none f,lq hov l (i+1) hl' d t₁ σ ρ w _ h' hi hg (ht.put hp km) (by rw[put_defers];exact hd) hQ⟩
      | true=>
        dsimp only at h';simp only[if_true];rw[a0] at h';split at h'
        · rename_i hr
          obtain⟨c,ho⟩:=EJ hr;rw[ho] at h';cases hda:BO P G t (.defer c) with
          | none=>rw[hda] at h';cases h'
          | some de=>
            rw[hda] at h';dsimp only at h';cases hp:cO t n o.dst unit with
            | none=>rw[hp] at h';cases h'
            | some t₁=>
              rw[hp] at h';unfold BO at hda;dsimp only at hda;split at hda
              · rename_i g hcal
                split at hda
                · rename_i u1 u2 q fi ca args hev has
                  cases hda;have hv:=fY (a:=a) hg ht hev;simp only[VR] at hv;obtain⟨fi',ca',hf,hfi,hca⟩:=hv;have hargs:=fK (ρ:=ρ) (f:=a.eval) has (fun x _ v hv=>fY hg ht hv)
                  have hex:(execOp a.eval o).run P w= .ok (.defer {target:=.fn (.func q) ca',args:=fi'++c.args.map a.eval}) w:=by
                    simp only[execOp,ho,resolve,hcal,hf,Deferred.ofValue,sB_,sP_,rA]
                  refine⟨fun f _=>iy none f,?_⟩;have hround:(jq none).round=none:=uD none;rw[hround,Oper.semAt_none,hex,Oper.uponIn_defer];refine lq hov l (i+1) hl' _ t₁ σ ρ w _ h' hi hg (TR.put (a:={a with defers:=_}) ht hp km) ?_ hQ;rw[put_defers];exact⟨_,_,_,rfl,by rw[dw];simpa using hfi.append hargs,hca,hd⟩
                · cases hda
              · cases hda
        · cases he:dJ P G (bo G t) σ o.op with
          | val v σ₁=>
            rw[he] at h';dsimp only at h';cases hp:cO t n o.dst v with
            | none=>rw[hp] at h';cases h'
            | some t₁=>
              rw[hp] at h';have hne:∀n,dJ P G (bo G t) σ o.op≠ .err n:=fun n=>by rw[he];simp
              have ho:=mV (P:=P) (w:=w) (o:=o) (f:=a.eval) hov hi (wE _ hg ht) he (fun n=>by simp);refine⟨fun f _=>iy none f,?_⟩;rw[Oper.semAt_eq _ _ _ (lT hne)];generalize hq:(execOp a.eval o).run P w=res at ho⊢;cases ho with
              | val hv hi₁ st₁=>
                have hle:=st₁.le hi;rw[Oper.uponIn_value]
                exact lq hov l (i+1) hl' d t₁ σ₁ _ _ _ h' hi₁ (hg.mono hle) ((ht.mono hle).put hp hv) (by rw[put_defers];exact hd.mono hle)
                  fun ρ' w' a' i' s'=>hQ ρ' w' a' i' (st₁.trans s')
          | skip σ₁=>
            rw[he] at h';dsimp only at h';cases hp:cO t n o.dst unit with
            | none=>rw[hp] at h';cases h'
            | some t₁=>
              rw[hp] at h';have hne:∀n,dJ P G (bo G t) σ o.op≠ .err n:=fun n=>by rw[he];simp
              have ho:=mV (P:=P) (w:=w) (o:=o) (f:=a.eval) hov hi (wE _ hg ht) he (fun n=>by simp);refine⟨fun f _=>iy none f,?_⟩;rw[Oper.semAt_eq _ _ _ (lT hne)];generalize hq:(execOp a.eval o).run P w=res at ho⊢;cases ho with
              | skip hi₁ st₁=>
                have hle:=st₁.le hi;rw[Oper.uponIn_skip]
                exact lq hov l (i+1) hl' d t₁ σ₁ _ _ _ h' hi₁ (hg.mono hle) ((ht.mono hle).put hp km) (by rw[put_defers];exact hd.mono hle)
                  fun ρ' w' a' i' s'=>hQ ρ' w' a' i' (st₁.trans s')
          | _=>rw[he] at h';cases h'
end
theorem vu {P:Program} {σ σ':aD} (he:∀(b:Pos) (o:bQ),σ.m.get b=some o->σ'.m.get b=some o) {u:Option TypeId} {x:Option AV} {v:AV} (h:qG P u σ x=some v):qG P u σ' x=some v:=by
 unfold qG at h⊢;cases x with
 | none=>cases h
 | some xv=>
  cases xv with
  | ptr b off=>
   dsimp only at h⊢;cases hb:σ.m.get b with
   | none=>rw[hb] at h;cases h
   | some o=>rw[hb] at h;rw[he b o hb];exact h
  | _=>cases h
theorem E9 {P:Program} {ev:Operand->Option AV} {σ σ':aD} {op:Op} {v:AV} (he:∀b o,σ.m.get b=some o->σ'.m.get b=some o) (h:fV P ev σ op=some v):fV P ev σ' op=some v:=by
 cases op with
 | load t x=>
  simp only[fV] at h⊢;cases hx:ev x with
  | none=>rw[hx] at h;cases h
  | some u=>
   rw[hx] at h;cases u with
   | ptr b off=>
    dsimp only at h⊢;cases hb:σ.m.get b with
    | none=>rw[hb] at h;cases h
    | some o=>rw[hb] at h;rw[he b o hb];exact h
   | _=>cases h
 | lookup t x i ok=>
  simp only[fV] at h⊢;split at h
  ·rename_i kt et k hu hik;cases hx:ev x with
   | none=>rw[hx] at h;dsimp only at h;rw[a0] at h;split at h<;>cases h
   | some u=>
    rw[hx] at h;cases u with
    | gU=>simpa only[hu,hik] using h
    | map b=>
     dsimp only at h⊢;cases hb:σ.m.get b with
     | none=>rw[hb] at h;dsimp only at h;rw[a0] at h;split at h<;>cases h
     | some o=>rw[hb] at h;rw[he b o hb];simpa only[hu,hik] using h
    | _=>dsimp only at h;rw[a0] at h;split at h<;>cases h
  cases h
 | call c=>
  simp only[fV] at h⊢;split at h
  ·rename_i hcal;split at h
   ·rename_i u1 u2 t x e1 e2;split at h
    ·rename_i u3 u4 kt et b hu hx;cases hb:σ.m.get b with
     | none=>rw[hb] at h;cases h
     | some o=>rw[hb] at h;rw[he b o hb];exact h
    ·exact h
    cases h
   cases h
  cases h
 | convert src dst x=>
  simp only[fV] at h⊢;split at h
  ·rename_i e hs hd;split at h
   ·rename_i h1 h2;exact h
   ·rename_i b off len cap h1 h2;rw[a0] at h⊢;split at h
    ·rename_i hc;rw[if_pos hc];exact h
    rename_i hc;rw[if_neg hc];cases hb:σ.m.get b with
    | none=>rw[hb] at h;cases h
    | some o=>rw[hb] at h;rw[he b o hb];exact h
   cases h
  ·split at h
   ·rw[a0] at h⊢;split at h
    ·cases h
    rename_i hc;rw[if_neg hc];exact vu he h
   cases h
  ·rw[a0] at h⊢;split at h
   ·rename_i hc;rw[if_pos hc];exact vu he h
   cases h
  cases h
 | _=>exact h
theorem pB {ops:Array Oper} {i j:Nat}:waits ops i j=true↔∃o,ops[i]?=some o/\∃e∈o.after,Region.binds .any e=true/\e.on=j:=by
 unfold waits;cases h:ops[i]? with
 | none=>simp
 | some o=>
  simp only[Option.map_some,Option.getD_some,oJ_,exists_eq_left',bA_,beq_iff_eq,Array.any_iff_exists];constructor
  ·rintro ⟨q,hq,_,_,h1⟩;exact⟨_,Array.getElem_mem hq,h1⟩
  rintro ⟨e,he,h1⟩;obtain⟨q,hq,rfl⟩:=Array.getElem_of_mem he;exact⟨q,hq,Nat.zero_le _,hq,h1⟩
structure Shape (P:Program) (ops:Array Oper) (A:Array Nat):Prop where
 dep:∀i j,waits ops i j=true->j<ops.size
 pL:∀i j,i<ops.size->j<ops.size->pL A i j=true->waits ops i j=true∨∃d,waits ops i d=true/\Ev.pL A d j=true
 uniq:∀i j k,eB ops i=some k->eB ops j=some k->i=j
 look:∀(i:Nat) (o:Oper) (j k:Nat),ops[i]?=some o->eB ops j=some k->k∈slotsOf ops o->Ev.pL A i j=true∨(fA P ops i=false/\(j=i∨Ev.pL A j i=true))
 dst:∀(i:Nat) (o:Oper),ops[i]?=some o->fA P ops i=true->∃k,o.dst=some k
theorem kX {ops:Array Oper} {i k:Nat} (h:eB ops i=some k):i<ops.size:=by
 unfold eB at h;cases ho:ops[i]? with
 | none=>rw[ho] at h;cases h
 | some o=>exact(aS_.1 ho).1
theorem gN {ops:Array Oper} {i:Nat} {o:Oper} (h:ops[i]?=some o):eB ops i=o.dst:=by simp[eB,h]
theorem iA (m i:Nat):hasB m i=m.testBit i:=by
 rw[Nat.testBit_eq_decide_div_mod_eq];show Nat.beq ((m >>> i) &&& 1) 1=_;rw[Nat.and_one_is_mod,Nat.shiftRight_eq_div_pow];cases h:Nat.beq (m/2 ^ i%2) 1 with
 | true=>exact(decide_eq_true (nB h)).symm
 | false=>exact(decide_eq_false (fun e=>by rw[e] at h;cases h)).symm
theorem Kl (w:Nat):Nat.beq (Nat.land w 1) 1=w.testBit 0:=by
 have:=iA w 0;exact this
theorem sV (i j:Nat):(bit i).testBit j=decide (i=j):=by
 show(1 <<< i).testBit j=_;rw[Nat.one_shiftLeft,Nat.testBit_two_pow]
theorem lS (m k j:Nat):(Nat.lor m k).testBit j=(m.testBit j || k.testBit j):=Nat.testBit_or m k j
theorem jF {j:Nat}:∀{l:List Nat},(mq l).testBit j=true↔j∈l
 | []=>by simp[mq]
 | i::l=>by
  show(Nat.lor (bit i) (mq l)).testBit j=true↔_;rw[lS,sV,Bool.or_eq_true,jF,mQ_,decide_eq_true_eq];exact⟨fun h=>h.imp Eq.symm id,fun h=>h.imp Eq.symm id⟩
theorem xE {m k:Nat} (h:wD m k=true) (j:Nat) (hj:m.testBit j=true):k.testBit j=true:=by
 have e:m &&& k=m:=nB h;rw[<-e,Nat.testBit_and,bA_] at hj;exact hj.2
theorem CJ {m k:Nat} (h:wD m k=false):∃j,m.testBit j=true/\k.testBit j=false:=by
 apply Classical.byContradiction;intro hn
 have e:m &&& k=m:=Nat.eq_of_testBit_eq fun j=>by
  rw[Nat.testBit_and];cases hm:m.testBit j with
  | false=>rfl
  | true=>
   cases hk:k.testBit j with
   | true=>rfl
   | false=>exact absurd ⟨j,hm,hk⟩ hn
 have:wD m k=true:=by
  show Nat.beq (m &&& k) m=true;rw[e];exact Nat.beq_refl m
 rw[this] at h;cases h
theorem p5 {j:Nat}:∀{L:List RA} {w:Nat},(vn L w).testBit j=true->∃d x,L[d]?=some x/\w.testBit d=true/\x.a.testBit j=true
 | [],w,h=>by simp[vn] at h
 | x::L,w,h=>by
  have h':(Nat.lor (@Bool.rec (fun _=>Nat) 0 x.a (Nat.beq (Nat.land w 1) 1)) (vn L (w >>> 1))).testBit j=true:=h;rw[lS,Bool.or_eq_true,Kl] at h';rcases h' with h' | h'
  ·cases hw:w.testBit 0 with
   | true=>rw[hw] at h';exact⟨0,x,rfl,hw,h'⟩
   | false=>
    rw[hw] at h';have h'':(0:Nat).testBit j=true:=h';simp at h''
  obtain⟨d,y,h1,h2,h3⟩:=p5 h';rw[Nat.testBit_shiftRight] at h2;exact⟨d+1,y,by simpa using h1,by rw[Nat.add_comm];exact h2,h3⟩
theorem qH:∀(rows:List Row) (L:List RA),(Ha rows L).map (·.r)=L.map (·.r)++rows
 | [],L=>by show L.map (·.r)=_;simp
 | r::rows,L=>by
  show(Ha rows (fD L [⟨r,Nat.lor r.w (vn L r.w)⟩])).map (·.r)=_
  rw[qH rows,dw];simp
theorem yE {P:Program} {ops:Array Oper} {i:Nat} {o:Oper} (h:ops[i]?=some o):∃x,(hZ P ops)[i]?=some x/\x.r=vK P ops o:=by
 have e:=qH (wy (vK P ops) ops.toList) [];rw[kE] at e
 have e':((hZ P ops).map (·.r))[i]?=some (vK P ops o):=by
  unfold hZ;rw[kE,e];simp[h]
 rw[gM_] at e';cases hx:(hZ P ops)[i]? with
 | none=>rw[hx] at e';cases e'
 | some x=>rw[hx] at e';exact⟨x,rfl,by simpa using e'⟩
theorem Hb {P:Program} {ops:Array Oper} {i:Nat} {x:RA} (h:(hZ P ops)[i]?=some x):∃o,ops[i]?=some o/\x.r=vK P ops o:=by
 have e:=qH (wy (vK P ops) ops.toList) [];rw[kE] at e
 have e':((hZ P ops).map (·.r))[i]?=ops[i]?.map (vK P ops):=by
  unfold hZ;rw[kE,e];simp
 rw[gM_,h] at e';cases ho:ops[i]? with
 | none=>rw[ho] at e';cases e'
 | some o=>rw[ho] at e';exact⟨o,rfl,by simpa using e'⟩
theorem AG {P:Program} {ops:Array Oper} {i j:Nat} {o:Oper} (h:ops[i]?=some o):(vK P ops o).w.testBit j=true↔waits ops i j=true:=by
 rw[pB];show(mq _).testBit j=true↔_;rw[jF,List.mem_filterMap];constructor
 ·rintro ⟨e,he,hb⟩;split at hb
  ·rename_i hb';cases hb;exact⟨o,h,e,by simpa using he,hb',rfl⟩
  cases hb
 rintro ⟨o',ho',e,he,hb,rfl⟩;rw[h] at ho';cases ho';exact⟨e,by simpa using he,by rw[if_pos hb]⟩
theorem wG {α:Type} {f:Nat->α->Bool}:∀{l:List α} {i:Nat},allI f l i=true->∀(j:Nat) (x:α),l[j]?=some x->f (i+j) x=true
 | [],i,_,j,x,hx=>by simp at hx
 | y::l,i,h,j,x,hx=>by
  have h': @Bool.rec (fun _=>Bool) false (allI f l (i+1)) (f i y)=true:=h;cases hf:f i y with
  | false=>rw[hf] at h';cases h'
  | true=>
   rw[hf] at h';cases j with
   | zero=>simp at hx;subst hx;exact hf
   | succ j=>
    have:=wG h' j x (by simpa using hx);rw[show i+(j+1)=i+1+j by omega];exact this
theorem oU {α:Type} {f:Nat->α->Bool} {l:List α} (h:allI f l 0=true) (j:Nat) (x:α) (hx:l[j]?=some x):f j x=true:=by
 have:=wG h j x hx;rwa[nA_] at this
theorem kS {a b:Bool} (h:(bif a then b else false)=true):a=true/\b=true:=by cases a<;>simp_all
def xQ (P:Program) (ops:Array Oper):Array Nat:=((hZ P ops).map (·.a)).toArray
theorem qS {P:Program} {ops:Array Oper} {i j:Nat} {x:RA} (h:(hZ P ops)[i]?=some x):pL (xQ P ops) i j=x.a.testBit j:=by
 unfold pL xQ
 have:(((hZ P ops).map (·.a)).toArray).getD i 0=x.a:=by
  rw[Array.getD_eq_getD_getElem?];simp[h]
 rw[this]
theorem zZ {P:Program} {ops:Array Oper} {i:Nat} {o:Oper} (h:ops[i]?=some o):jb P ops i=(vK P ops o).h:=by unfold jb;rw[h];rfl
theorem vf {P:Program} {ops:Array Oper} {i:Nat} {o:Oper} (h:ops[i]?=some o):fA P ops i=(vK P ops o).k:=by unfold fA;rw[h];rfl
theorem Cq {i j:Nat} {x y:RA} (h:G5 i x j y=true) (hd:y.r.dm=mq y.r.d.toList):Ar i x j y=true:=by
 unfold G5 at h;cases hb:Nat.beq (Nat.land (Nat.lor x.r.dm x.r.s) y.r.dm) 0 with
 | false=>rw[hb] at h;exact h
 | true=>
  have e:(x.r.dm ||| x.r.s) &&& y.r.dm=0:=nB hb;unfold Ar;cases hy:y.r.d with
  | none=>rfl
  | some k=>
   have hk:y.r.dm.testBit k=true:=by rw[hd,hy];exact jF.2 (by simp)
   have h0:((x.r.dm ||| x.r.s) &&& y.r.dm).testBit k=false:=by rw[e];exact Nat.zero_testBit k
   rw[Nat.testBit_and,hk,Bool.and_true,Nat.testBit_or,Bool.or_eq_false_iff] at h0;have a1:hasB x.r.dm k=false:=by rw[iA];exact h0.1
   have a2:hasB x.r.s k=false:=by rw[iA];exact h0.2
   dsimp only;rw[a1,a2];rfl
theorem Hk {P:Program} {ops:Array Oper} (h:Hj (hZ P ops) ops.size=true):Shape P ops (xQ P ops):=by
 have key:∀i o,ops[i]?=some o->∃x,(hZ P ops)[i]?=some x/\x.r=vK P ops o/\x.r.w<2 ^ ops.size/\(x.r.k=true->x.r.d.isSome=true)/\wD x.a (Nat.lor x.r.w (vn (hZ P ops) x.r.w))=true/\
   ∀j y,(hZ P ops)[j]?=some y->Ar i x j y=true:=by
  intro i o ho;obtain⟨x,hx,hr⟩:=yE (P:=P) ho;have h1:=oU h i x hx;obtain⟨k1,h1⟩:=kS h1;obtain⟨k2,h1⟩:=kS h1;obtain⟨k3,h1⟩:=kS h1;refine⟨x,hx,hr,?_,fun hk=>?_,k3,fun j y hy=>Cq (oU h1 j y hy) (by obtain⟨o',_,hr'⟩:=Hb hy;rw[hr'];rfl)⟩
  ·rw[qW] at k1;have:bit ops.size=2 ^ ops.size:=Nat.one_shiftLeft _;rw[<-this];exact k1
  rw[hk] at k2;exact k2
 have pair:∀i o j o' k,ops[i]?=some o->ops[j]?=some o'->o'.dst=some k->(o.dst=some k->j=i)/\(k∈slotsOf ops o->pL (xQ P ops) i j=true∨(fA P ops i=false/\(j=i∨pL (xQ P ops) j i=true))):=by
  intro i o j o' k ho ho' hk;obtain⟨x,hx,hr,_,_,_,hp⟩:=key i o ho;obtain⟨y,hy,hr'⟩:=yE (P:=P) ho';have h1:=hp j y hy;unfold Ar at h1;have hd:y.r.d=some k:=by rw[hr'];exact hk
  rw[hd] at h1;have h1':(bif (bif hasB x.r.dm k then Nat.beq j i else true) then(bif hasB x.r.s k then(bif hasB x.a j then true else(bif x.r.k then false else(bif Nat.beq j i then true else hasB y.a i))) else true) else false)=true:=h1;obtain⟨g1,g2⟩:=kS h1';refine⟨fun hd'=>?_,fun hs=>?_⟩
  ·have:hasB x.r.dm k=true:=by
    rw[iA,hr];show(mq o.dst.toList).testBit k=true;rw[jF,hd'];simp
   rw[this] at g1;exact nB g1
  have:hasB x.r.s k=true:=by
   rw[iA,hr];exact jF.2 hs
  rw[this] at g2;simp only[cond_true] at g2;rw[qS hx,qS hy,vf (P:=P) ho,<-hr];cases ha:hasB x.a j with
  | true=>rw[iA] at ha;exact .inl ha
  | false=>
   rw[ha] at g2;simp only[cond_false] at g2;cases hk':x.r.k with
   | true=>rw[hk'] at g2;cases g2
   | false=>
    rw[hk'] at g2;simp only[cond_false] at g2;cases hb:Nat.beq j i with
    | true=>exact .inr ⟨rfl,.inl (nB hb)⟩
    | false=>rw[hb] at g2;rw[iA] at g2;exact .inr ⟨rfl,.inr g2⟩
 refine⟨fun i j hw=>?_,fun i j hi hj ha=>?_,fun i j k hi hj=>?_,fun i o j k ho hj hk=>?_,fun i o ho hl=>?_⟩
 ·obtain⟨o,ho,_⟩:=pB.1 hw;obtain⟨x,hx,hr,hlt,_⟩:=key i o ho;have:x.r.w.testBit j=true:=by rw[hr];exact(AG ho).2 hw
  apply Classical.byContradiction;intro hn;rw[Nat.testBit_lt_two_pow (Nat.lt_of_lt_of_le hlt (Nat.pow_le_pow_right (by omega) (by omega)))] at this;cases this
 ·have ho:ops[i]?=some ops[i]:=aG_ hi;obtain⟨x,hx,hr,_,_,hs,_⟩:=key i _ ho;rw[qS hx] at ha;have h1:=xE hs j ha;rw[lS,Bool.or_eq_true] at h1;rcases h1 with h1 | h1
  ·rw[hr] at h1;exact .inl ((AG ho).1 h1)
  obtain⟨d,y,hy,h2,h3⟩:=p5 h1;rw[hr] at h2;exact .inr ⟨d,(AG ho).1 h2,by rw[qS hy];exact h3⟩
 ·have hi':=kX hi;have hj':=kX hj;have ho:ops[i]?=some ops[i]:=aG_ hi';have ho':ops[j]?=some ops[j]:=aG_ hj';rw[gN ho] at hi;rw[gN ho'] at hj;exact((pair i _ j _ k ho ho' hj).1 hi).symm
 ·have hj':=kX hj;have ho':ops[j]?=some ops[j]:=aG_ hj';rw[gN ho'] at hj;exact(pair i o j _ k ho ho' hj).2 hk
 obtain⟨x,hx,hr,_,hd,_⟩:=key i o ho;rw[vf (P:=P) ho,<-hr] at hl;have:=hd hl;rw[hr] at this;exact Option.isSome_iff_exists.1 this
def Ord (ops:Array Oper):List Nat->Prop
 | []=>True
 | i::r=>(∀j,waits ops i j=true->j∈r)/\Ord ops r
structure Fz (P:Program) (ops:Array Oper) (A:Array Nat) (i:Nat) (rc:List Nat) (done:List Nat):Prop where
 lt:i<ops.size
 new:i∉done
 dep:∀j,waits ops i j=true->j∈done
 again:jb P ops i=true->∀j∈done,fA P ops j=true->pL A i j=true∨j∈rc
 alone:jb P ops i=true->∀j,j<ops.size->j∉done->j≠i->∃e,waits ops j e=true/\e∉done
def CX (P:Program) (ops:Array Oper) (A:Array Nat):List (Nat×List Nat)->List Nat->Prop
 | [],done=>∀i,i<ops.size->i∈done
 | (i,rc)::l,done=>Fz P ops A i rc done/\CX P ops A l (i::done)
theorem uo {P:Program} {ops:Array Oper}:∀(p:List (Nat×List Nat)) (D:Nat) (done:List Nat),(∀j,D.testBit j=true↔j∈done)->BF (hZ P ops) ops.size p D=true->CX P ops (xQ P ops) p done
 | [],D,done,hD,h=>fun i hi=>by
  have e:D=bit ops.size-1:=nB h;rw[<-hD,e,show bit ops.size=2 ^ ops.size from Nat.one_shiftLeft _,Nat.testBit_two_pow_sub_one];exact decide_eq_true hi
 | (i,rc)::l,D,done,hD,h=>by
  have h':Option.rec (motive:=fun _=>Bool) false (fun x=>bif Gr (hZ P ops) i rc D x then BF (hZ P ops) ops.size l (Nat.lor D (bit i)) else false) (nth (hZ P ops) i)=true:=h;rw[fC] at h';cases hx:(hZ P ops)[i]? with
  | none=>rw[hx] at h';cases h'
  | some x=>
  rw[hx] at h';obtain⟨h1,h2⟩:=kS h';obtain⟨o,ho,hr⟩:=Hb hx;have hlt:=(aS_.1 ho).1;unfold Gr at h1;cases hi:hasB D i with
  | true=>rw[hi] at h1;cases h1
  | false=>
  rw[hi] at h1;obtain⟨hw,h3⟩:=kS h1;refine⟨⟨hlt,fun hm=>?_,fun j hj=>?_,fun hh j hj hl=>?_,fun hh j hj hn hne=>?_⟩,uo l _ (i::done) (fun j=>?_) h2⟩
  ·rw[iA] at hi;rw[(hD i).2 hm] at hi;cases hi
  ·exact(hD j).1 (xE hw j (by rw[hr];exact(AG ho).2 hj))
  ·rw[zZ (P:=P) ho,<-hr] at hh;rw[hh] at h3
   have hjlt:∃o',ops[j]?=some o':=by
    cases ho':ops[j]? with
    | some o'=>exact⟨o',rfl⟩
    | none=>unfold fA at hl;rw[ho'] at hl;cases hl
   obtain⟨o',ho'⟩:=hjlt;obtain⟨y,hy,hr'⟩:=yE (P:=P) ho';have h4:=oU h3 j y hy;have hdj:hasB D j=true:=by rw[iA];exact(hD j).2 hj
   rw[hdj] at h4;simp only[cond_true] at h4;rw[qS hx];cases ha:hasB x.a j with
   | true=>rw[iA] at ha;exact .inl ha
   | false=>
    rw[ha] at h4;rw[vf (P:=P) ho',<-hr'] at hl;rw[hl] at h4;simp only[cond_true,cond_false] at h4;rw[iA] at h4;exact .inr (jF.1 h4)
  ·rw[zZ (P:=P) ho,<-hr] at hh;rw[hh] at h3;have ho':ops[j]?=some ops[j]:=aG_ hj;obtain⟨y,hy,hr'⟩:=yE (P:=P) ho';have h4:=oU h3 j y hy
   have hdj:hasB D j=false:=by
    rw[iA];cases hb:D.testBit j with
    | false=>rfl
    | true=>exact absurd ((hD j).1 hb) hn
   rw[hdj] at h4;simp only[cond_false] at h4;cases hb:Nat.beq j i with
   | true=>exact absurd (nB hb) hne
   | false=>
    rw[hb] at h4;simp only[cond_false] at h4;cases hsb:wD y.r.w D with
    | true=>rw[hsb] at h4;cases h4
    | false=>
     obtain⟨e,g1,g2⟩:=CJ hsb;rw[hr'] at g1;exact⟨e,(AG ho').1 g1,fun hm=>by rw[(hD e).2 hm] at g2;cases g2⟩
  rw[lS,sV,Bool.or_eq_true,hD,mQ_,decide_eq_true_eq];exact⟨fun h=>h.elim .inr (fun h=>.inl h.symm),fun h=>h.elim (fun h=>.inr h.symm) .inl⟩
theorem Ir {P:Program} {ops:Array Oper} (h:qv P ops=true):Shape P ops (xQ P ops)/\CX P ops (xQ P ops) (sE P ops) []:=by
 obtain⟨h1,h2⟩:=kS h;exact⟨Hk h1,uo _ 0 [] (fun j=>by simp) h2⟩
def Li (listed:Array Bool) (i:Nat):Prop:=listed.getD i false=true
theorem Li.lt {listed:Array Bool} {i:Nat} (h:Li listed i):i<listed.size:=by
 unfold Li at h;rcases Nat.lt_or_ge i listed.size with h' | h'
 ·exact h'
 simp[Array.getD_eq_getD_getElem?,Array.getElem?_eq_none h'] at h
theorem GU {listed:Array Bool} {i:Nat} (hi:i<listed.size):listed.getD i true=false↔¬Li listed i:=by
 simp[Li,Array.getD_eq_getD_getElem?,hi]
theorem xO {listed:Array Bool} {i j:Nat} (hi:i<listed.size):Li (listed.setIfInBounds i true) j↔j=i∨Li listed j:=by
 unfold Li;simp only[Array.getD_eq_getD_getElem?,Array.getElem?_setIfInBounds]
 by_cases e:i=j
 ·subst e;simp[hi]
 simp[e,Ne.symm e]
def cZ:AV->Option Pos
 | .ptr b _=>some b
 | .slice b _ _ _=>some b
 | .map b=>some b
 | _=>none
theorem xT (mk:Mk) (b:Pos):cZ (mk.of b)=some b:=by cases mk<;>rfl
def lH (P:Program) (G:Cx) (t:PT AV) (σ:aD) (ρ:cz) (lo:Nat) (ti:PT AV) (o:Oper):Prop:=
 match kindOf P o.op with
 | .pure=>∃v,dg P (bo G ti) o.op=some v/\∀k,o.dst=some k->t.get (posOf k)=some v
 | .read=>∃v,fV P (bo G ti) σ o.op=some v/\∀k,o.dst=some k->t.get (posOf k)=some v
 | .alloc=>∃ob mk b,eU P (bo G ti) o.op=some (ob,mk)/\σ.m.get b=some ob/\ρ b=none/\lo<=b.num/\b.num<σ.next.num/\∀k,o.dst=some k->t.get (posOf k)=some (mk.of b)
 | .ja=>False
def pE (P:Program) (G:Cx) (ops:Array Oper) (A:Array Nat) (t₀ t:PT AV) (σ:aD) (ρ:cz) (lo:Nat) (i:Nat):Prop:=
 ∃o ti,ops[i]?=some o/\
  (∀k∈slotsOf ops o,∀j,pL A i j=true->eB ops j=some k->ti.get (posOf k)=t.get (posOf k))/\
  (∀k∈slotsOf ops o,(∀j,eB ops j=some k->pL A i j=false)->ti.get (posOf k)=t₀.get (posOf k))/\
  ∃bw,bu ops ti o=some bw/\(bw=false->∀k,o.dst=some k->t.get (posOf k)=some unit)/\(bw=true->lH P G t σ ρ lo ti o)
section
variable {P:Program} {G:Cx} {ops:Array Oper} {A:Array Nat} {t₀ t t₁:PT AV} {σ σ₁:aD} {ρ ρ₁:cz} {lo i:Nat}
theorem uQ {o:Oper} {j:Nat} {want:Bool} {k:Nat} (hg:o.guard=some (j,want)) (hk:(ops[j]?).bind (·.dst)=some k):k∈slotsOf ops o:=by
 unfold slotsOf;rw[hg];simp[hk]
theorem yz {o:Oper} {k:Nat} (h:Operand.tmp k∈o.op.operands):k∈slotsOf ops o:=by
 unfold slotsOf;refine List.mem_append_left _ (List.mem_filterMap.2 ⟨.tmp k,by simpa using h,rfl⟩)
theorem jP {o:Oper} {ti tj:PT AV} (h:∀k∈slotsOf ops o,ti.get (posOf k)=tj.get (posOf k)):bu ops ti o=bu ops tj o:=by
 unfold bu;cases hg:o.guard with
 | none=>rfl
 | some jw=>
  obtain⟨j,want⟩:=jw;dsimp only;cases hk:(ops[j]?).bind (·.dst) with
  | none=>rfl
  | some k=>dsimp only;rw[h k (uQ hg hk)]
theorem pE.Jr (hp:pE P G ops A t₀ t σ ρ lo i) (h:∀k,(eB ops i=some k∨∃j,pL A i j=true/\eB ops j=some k)->t₁.get (posOf k)=t.get (posOf k)):pE P G ops A t₀ t₁ σ ρ lo i:=by
 obtain⟨o,ti,ho,h1,h2,bw,h3,h4,h5⟩:=hp;have hd:∀k,o.dst=some k->t₁.get (posOf k)=t.get (posOf k):=fun k hk=>h k (.inl (by rw[gN ho];exact hk))
 refine⟨o,ti,ho,fun k hk j ha hj=>(h1 k hk j ha hj).trans (h k (.inr ⟨j,ha,hj⟩)).symm,h2,bw,h3,fun hb k hk=>(hd k hk).trans (h4 hb k hk),fun hb=>?_⟩;have:=h5 hb;unfold lH at this⊢;split at this
 ·obtain⟨v,g1,g2⟩:=this;exact⟨v,g1,fun k hk=>(hd k hk).trans (g2 k hk)⟩
 ·obtain⟨v,g1,g2⟩:=this;exact⟨v,g1,fun k hk=>(hd k hk).trans (g2 k hk)⟩
 ·obtain⟨ob,mk,b,g1,g2,g3,g4,g5,g6⟩:=this;exact⟨ob,mk,b,g1,g2,g3,g4,g5,fun k hk=>(hd k hk).trans (g6 k hk)⟩
 exact this
theorem pE.grow (hp:pE P G ops A t₀ t σ ρ lo i) (h:∀b o,σ.m.get b=some o->σ₁.m.get b=some o) (hn:σ.next.num<=σ₁.next.num):pE P G ops A t₀ t σ₁ ρ lo i:=by
 obtain⟨o,ti,ho,h1,h2,bw,h3,h4,h5⟩:=hp;refine⟨o,ti,ho,h1,h2,bw,h3,h4,fun hb=>?_⟩;have:=h5 hb;unfold lH at this⊢;split at this
 ·exact this
 ·obtain⟨v,g1,g2⟩:=this;exact⟨v,E9 h g1,g2⟩
 ·obtain⟨ob,mk,b,g1,g2,g3,g4,g5,g6⟩:=this;exact⟨ob,mk,b,g1,h b ob g2,g3,g4,by omega,g6⟩
 exact this
theorem pE.MV (hp:pE P G ops A t₀ t σ ρ lo i) (hs:Shape P ops A) (h:∀b,(∃o k v,ops[i]?=some o/\kindOf P o.op= .alloc/\eB ops i=some k/\t.get (posOf k)=some v/\cZ v=some b)->ρ b=none->ρ₁ b=none):pE P G ops A t₀ t σ ρ₁ lo i:=by
 obtain⟨o,ti,ho,h1,h2,bw,h3,h4,h5⟩:=hp;refine⟨o,ti,ho,h1,h2,bw,h3,h4,fun hb=>?_⟩;have:=h5 hb;unfold lH at this⊢;split at this
 ·exact this
 ·exact this
 ·rename_i hk;obtain⟨ob,mk,b,g1,g2,g3,g4,g5,g6⟩:=this;obtain⟨k,hkd⟩:=hs.dst i o ho (by simp[fA,sw,ho,hk]);exact⟨ob,mk,b,g1,g2,h b ⟨o,k,_,ho,hk,by rw[gN ho];exact hkd,g6 k hkd,xT mk b⟩ g3,g4,g5,g6⟩
 exact this
theorem pE.again (hp:pE P G ops A t₀ t σ ρ lo i) (hs:Shape P ops A) (h:∀k,(eB ops i=some k∨∃j,pL A i j=true/\eB ops j=some k)->t₁.get (posOf k)=t.get (posOf k))
  (h0:∀k,(∀j,eB ops j≠some k)->t₁.get (posOf k)=t₀.get (posOf k)) (hstill:fA P ops i=true->ie P G ops t₁ σ₁ i=true)
  (hr:∀b:Pos,b.num<σ.next.num->ρ₁ b=ρ b) (hn:σ.next.num<=σ₁.next.num):pE P G ops A t₀ t₁ σ₁ ρ₁ lo i:=by
 have hp₁:=hp.Jr h;obtain⟨o,ti,ho,h1,h2,bw,h3,h4,h5⟩:=hp₁;cases hb:bw with
 | false=>exact⟨o,ti,ho,h1,h2,bw,h3,h4,fun hb'=>absurd hb' (by rw[hb];simp)⟩
 | true=>
  have hv:=h5 hb;subst hb;cases hk:kindOf P o.op with
  | pure=>
   refine⟨o,ti,ho,h1,h2,true,h3,h4,fun _=>?_⟩;unfold lH at hv⊢;rw[hk] at hv⊢;exact hv
  | ja=>unfold lH at hv;rw[hk] at hv;exact hv.elim
  | read=>
   have hl:fA P ops i=true:=by simp[fA,sw,ho,hk]
   have hsl:∀k∈slotsOf ops o,t₁.get (posOf k)=ti.get (posOf k):=fun k hks=>by
    by_cases hw:∃j,eB ops j=some k
    ·obtain⟨j,hj⟩:=hw;rcases hs.look i o j k ho hj hks with ha | ⟨hno,_⟩
     ·exact(h1 k hks j ha hj).symm
     rw[hl] at hno;cases hno
    rw[h0 k (fun j hj=>hw ⟨j,hj⟩),h2 k hks (fun j hj=>absurd ⟨j,hj⟩ hw)]
   have ar:=hstill hl;unfold ie at ar;rw[ho] at ar;dsimp only at ar;rw[jP hsl,h3] at ar;dsimp only at ar;refine⟨o,t₁,ho,fun _ _ _ _ _=>rfl,fun k hks hj=>(hsl k hks).trans (h2 k hks hj),true,by rw[jP hsl];exact h3,fun h'=>(by cases h'),fun _=>?_⟩;unfold lH;rw[hk];split at ar
   ·rename_i k hkd;split at ar
    ·rename_i v hvk;rw[hk] at ar;dsimp only at ar;split at ar
     ·rename_i u hu;have:=tG ar;subst this;exact⟨u,hu,fun k' hk'=>by rw[hkd] at hk';cases hk';exact hvk⟩
     cases ar
    cases ar
   cases ar
  | alloc=>
   have hl:fA P ops i=true:=by simp[fA,sw,ho,hk]
   have hsl:∀k∈slotsOf ops o,t₁.get (posOf k)=ti.get (posOf k):=fun k hks=>by
    by_cases hw:∃j,eB ops j=some k
    ·obtain⟨j,hj⟩:=hw;rcases hs.look i o j k ho hj hks with ha | ⟨hno,_⟩
     ·exact(h1 k hks j ha hj).symm
     rw[hl] at hno;cases hno
    rw[h0 k (fun j hj=>hw ⟨j,hj⟩),h2 k hks (fun j hj=>absurd ⟨j,hj⟩ hw)]
   have ar:=hstill hl;unfold ie at ar;rw[ho] at ar;dsimp only at ar;rw[jP hsl,h3] at ar;dsimp only at ar;refine⟨o,t₁,ho,fun _ _ _ _ _=>rfl,fun k hks hj=>(hsl k hks).trans (h2 k hks hj),true,by rw[jP hsl];exact h3,fun h'=>(by cases h'),fun _=>?_⟩;unfold lH at hv⊢;rw[hk] at hv⊢;dsimp only at hv⊢;obtain⟨ob,mk,b,g1,g2,g3,g4,g5,g6⟩:=hv;split at ar
   ·rename_i k hkd;have g6':=g6 k hkd;rw[g6'] at ar;dsimp only at ar;rw[hk] at ar;dsimp only at ar;have hrb:ρ₁ b=none:=by rw[hr b g5];exact g3
    split at ar
    ·rename_i cs e b' ha hvb;split at ar
     ·rename_i cs' e' hbb;rw[bA_] at ar;have e1:=nB ar.1;have e2:=oW ar.2;subst e1;subst e2;have hbb':b'=b:=by cases mk<;>simp[Mk.of] at hvb<;>exact hvb.symm
      have hmk:mk= .ptr:=by cases mk<;>simp[Mk.of] at hvb<;>rfl
      subst hbb';subst hmk;exact⟨_,_,b',ha,hbb,hrb,g4,by omega,g6⟩
     cases ar
    ·rename_i cs e n c b' n' c' ha hvb;split at ar
     ·rename_i cs' e' hbb;simp only[bA_] at ar;have e1:=nB ar.1.1.1;have e2:=oW ar.1.1.2;have e3:=nB ar.1.2;have e4:=nB ar.2;subst e1;subst e2;subst e3;subst e4;have hmk:b'=b/\mk= .slice n c:=by cases mk<;>simp[Mk.of] at hvb<;>(obtain⟨q1,q2,q3⟩:=hvb;subst q1;subst q2;subst q3;exact⟨rfl,rfl⟩)
      obtain⟨rfl,rfl⟩:=hmk;exact⟨_,_,b',ha,hbb,hrb,g4,by omega,g6⟩
     cases ar
    cases ar
   cases ar
end
theorem lu {t t₁:PT AV} {n:Nat} {dst:Option Nat} {v:AV} (h:cO t n dst v=some t₁):
  (∀k,dst≠some k->t₁.get (posOf k)=t.get (posOf k))/\(∀k,dst=some k->k<n/\t₁.get (posOf k)=some v):=by
 cases dst with
 | none=>cases h;exact⟨fun _ _=>rfl,fun k hk=>by cases hk⟩
 | some j=>
  obtain⟨hj,rfl⟩:=pr h;refine⟨fun k hk=>PT.cV _ _ _ _ (fun e=>hk (by rw[pq e])),fun k hk=>?_⟩;cases hk;exact⟨hj,PT.cY _ _ _⟩
theorem G8 {a:Act} {dst:Option Tmp} {x:Value}:(∀k,dst≠some k->(a.put dst x).tmps.getD k undef=a.tmps.getD k undef)/\(∀k,dst=some k->k<a.tmps.size->(a.put dst x).tmps.getD k undef=x)/\(a.put dst x).tmps.size=a.tmps.size:=by
 cases dst with
 | none=>exact⟨fun _ _=>rfl,(fun k hk=>by cases hk),rfl⟩
 | some j=>
  refine⟨fun k hk=>?_,fun k hk hlt=>?_,by simp[Act.put]⟩
  ·have:j≠k:=fun e=>hk (by rw[e])
   simp[Act.put,Array.getD_eq_getD_getElem?,Array.getElem?_setIfInBounds,this]
  cases hk;simp[Act.put,Array.getD_eq_getD_getElem?,Array.getElem?_setIfInBounds,hlt]
theorem cE {α:Type} {x y:α} {l:List α} (h:x∈y::l):x=y∨x∈l:=mQ_.1 h
structure J (P:Program) (G:Cx) (ih:iE) (ops:Array Oper) (A:Array Nat) (n:Nat) (d:List DE) (fin:CR) (ρ₀:cz) (σ₀:aD) (w₀:World) (t₀:PT AV)
  (l:List (Nat×List Nat)) (done:List Nat) (t:PT AV) (σ:aD) (listed:Array Bool) (ρ:cz) (w:World) (a:Act):Prop where
 run:jh P G ih ops n d l t σ=fin
 ok:CX P ops A l done
 inv:Inv ρ σ w
 Jz:dZ ρ₀ σ₀ w₀ ρ σ w
 dr:DR ρ d a.defers
 gr:GR ρ G
 JB:a.tmps.size=n
 HN:listed.size=ops.size
 JO:∀i∈done,i<ops.size
 ord:Ord ops done
 sub:∀i,Li listed i->i∈done
 ja:∀i∈done,jb P ops i=true->Li listed i
 closed:∀i j,j<ops.size->Li listed i->pL A i j=true->Li listed j
 kx:∀i j,j<ops.size->i∈done->pL A i j=true->j∈done
 KT:∀i∈done,∀k,eB ops i=some k->k<n
 AL:∀i k v,Li listed i->eB ops i=some k->t.get (posOf k)=some v->VR ρ v (a.tmps.getD k undef)
 AK:∀k v,(∀i,Li listed i->eB ops i≠some k)->t₀.get (posOf k)=some v->k<n/\VR ρ v (a.tmps.getD k undef)
 same:∀k,(∀i∈done,eB ops i≠some k)->t.get (posOf k)=t₀.get (posOf k)
 As:∀i∈done,¬Li listed i->pE P G ops A t₀ t σ ρ σ₀.next.num i
 apart:∀i j o o' k k' v v' b,i∈done->j∈done->¬Li listed i->¬Li listed j->ops[i]?=some o->ops[j]?=some o'->kindOf P o.op= .alloc->kindOf P o'.op= .alloc->
  eB ops i=some k->eB ops j=some k'->t.get (posOf k)=some v->t.get (posOf k')=some v'->cZ v=some b->cZ v'=some b->i=j
section
variable {P:Program} {G:Cx} {ih:iE} {ops:Array Oper} {A:Array Nat} {n:Nat} {d:List DE} {fin:CR} {ρ₀:cz} {σ₀:aD} {w₀:World} {t₀:PT AV}
variable {l:List (Nat×List Nat)} {done:List Nat} {t:PT AV} {σ:aD} {listed:Array Bool} {ρ:cz} {w:World} {a:Act}
theorem tZ (hs:Shape P ops A) {i:Nat} (hi:i<ops.size) (hw:∀j,waits ops i j=true->j∈done) (hd:∀i j,j<ops.size->i∈done->pL A i j=true->j∈done):∀j,j<ops.size->pL A i j=true->j∈done:=fun j hj ha=>by
 rcases hs.pL i j hi hj ha with h | ⟨q,h1,h2⟩
 ·exact hw j h
 exact hd q j hj (hw q h1) h2
theorem ua (hs:Shape P ops A) {i:Nat} (hi:i<ops.size) (hw:∀j,waits ops i j=true->Li listed j) (hd:∀i j,j<ops.size->Li listed i->pL A i j=true->Li listed j):∀j,j<ops.size->pL A i j=true->Li listed j:=fun j hj ha=>by
 rcases hs.pL i j hi hj ha with h | ⟨q,h1,h2⟩
 ·exact hw j h
 exact hd q j hj (hw q h1) h2
theorem J.uR (hs:Shape P ops A) (hj:J P G ih ops A n d fin ρ₀ σ₀ w₀ t₀ l done t σ listed ρ w a) {i:Nat} {o:Oper} (ho:ops[i]?=some o) (hn:i∉done):
  ∀k∈slotsOf ops o,(∀j,eB ops j=some k->pL A i j=false)->t.get (posOf k)=t₀.get (posOf k):=fun k hk hno=>by
 refine hj.same k fun j hjd hjk=>?_
 rcases hs.look i o j k ho hjk hk with h | ⟨_,h | h⟩
 ·rw[hno j hjk] at h;cases h
 ·subst h;exact hn hjd
 exact hn (hj.kx j i (aS_.1 ho).1 hjd h)
theorem J.look (hs:Shape P ops A) (hj:J P G ih ops A n d fin ρ₀ σ₀ w₀ t₀ l done t σ listed ρ w a) {i:Nat} {o:Oper} {ti:PT AV} (ho:ops[i]?=some o) (hn:¬Li listed i) (hr:∀j,j<ops.size->pL A i j=true->Li listed j)
  (h1:∀k∈slotsOf ops o,∀j,pL A i j=true->eB ops j=some k->ti.get (posOf k)=t.get (posOf k)) (h2:∀k∈slotsOf ops o,(∀j,eB ops j=some k->pL A i j=false)->ti.get (posOf k)=t₀.get (posOf k)):
  ∀k∈slotsOf ops o,∀v,ti.get (posOf k)=some v->k<n/\VR ρ v (a.tmps.getD k undef):=fun k hk v hv=>by
 by_cases hw:∃j,eB ops j=some k/\pL A i j=true
 ·obtain⟨j,hjk,ha⟩:=hw;have hL:=hr j (kX hjk) ha;rw[h1 k hk j ha hjk] at hv;exact⟨hj.KT j (hj.sub j hL) k hjk,hj.AL j k v hL hjk hv⟩
 have hno:∀j,eB ops j=some k->pL A i j=false:=fun j hjk=>by
  cases h:pL A i j with
  | false=>rfl
  | true=>exact absurd ⟨j,hjk,h⟩ hw
 rw[h2 k hk hno] at hv;refine hj.AK k v (fun j hL hjk=>?_) hv;rcases hs.look i o j k ho hjk hk with h | ⟨_,h | h⟩
 ·rw[hno j hjk] at h;cases h
 ·subst h;exact hn hL
 exact hn (hj.closed j i (aS_.1 ho).1 hL h)
theorem Dl {ti:PT AV} {o:Oper} (hg:GR ρ G) (h:∀k∈slotsOf ops o,∀v,ti.get (posOf k)=some v->k<n/\VR ρ v (a.tmps.getD k undef)):ER ρ (bo G ti) a.eval o.op:=fun x hx v hv=>by
 cases x with
 | tmp k=>exact(h k (yz hx) v hv).2
 | const c=>exact fY (t:=.leaf) (n:=a.tmps.size) hg ⟨rfl,fun k v hk=>by rw[PT.ld] at hk;cases hk⟩ hv
 | global g=>exact fY (t:=.leaf) (n:=a.tmps.size) hg ⟨rfl,fun k v hk=>by rw[PT.ld] at hk;cases hk⟩ hv
 | func f=>exact fY (t:=.leaf) (n:=a.tmps.size) hg ⟨rfl,fun k v hk=>by rw[PT.ld] at hk;cases hk⟩ hv
theorem tf {ti:PT AV} {o:Oper} {b:Bool} (hsz:a.tmps.size=n) (h:∀k∈slotsOf ops o,∀v,ti.get (posOf k)=some v->k<n/\VR ρ v (a.tmps.getD k undef)) (hw:bu ops ti o=some b):Region.wanted o (yielded ops a.tmps)=b:=
 xH hw fun j want k hg hk v hv=>by
  have:=h k (uQ hg hk) v hv;rw[hsz];exact this
theorem J.ahead (hs:Shape P ops A) {i:Nat} {rc:List Nat} (hj:J P G ih ops A n d fin ρ₀ σ₀ w₀ t₀ ((i,rc)::l) done t σ listed ρ w a) (hl:jb P ops i=false) {o:Oper} (ho:ops[i]?=some o) {v:AV} {t₁:PT AV} {σ₁:aD}
  (hp:cO t n o.dst v=some t₁) (hrun:jh P G ih ops n d l t₁ σ₁=fin) (hinv:Inv ρ σ₁ w) (ar:dZ ρ σ w ρ σ₁ w) (hget:∀b o,σ.m.get b=some o->σ₁.m.get b=some o)
  (hblk:∀b,cZ v=some b->kindOf P o.op= .alloc->σ.next.num<=b.num) (hpend:pE P G ops A t₀ t₁ σ₁ ρ σ₀.next.num i):J P G ih ops A n d fin ρ₀ σ₀ w₀ t₀ l (i::done) t₁ σ₁ listed ρ w a:=by
 obtain⟨hh,hok⟩:=hj.ok;obtain⟨f1,f2⟩:=lu hp;have hdi:eB ops i=o.dst:=gN ho;have hnL:¬Li listed i:=fun h=>hh.new (hj.sub i h)
 have hother:∀j∈done,∀k,eB ops j=some k->t₁.get (posOf k)=t.get (posOf k):=fun j hjd k hk=>f1 k fun e=>by
  have:=hs.uniq i j k (by rw[hdi];exact e) hk;subst this;exact hh.new hjd
 have hpend':∀j∈done,¬Li listed j->pE P G ops A t₀ t₁ σ₁ ρ σ₀.next.num j:=fun j hjd hjl=>by
  refine((hj.As j hjd hjl).Jr fun k hk=>?_).grow hget ar.next;rcases hk with hk | ⟨q,hq,hk⟩
  ·exact hother j hjd k hk
  exact hother q (hj.kx j q (kX hk) hjd hq) k hk
 have hfar:∀j o' k' v' b,j∈done->¬Li listed j->ops[j]?=some o'->kindOf P o'.op= .alloc->eB ops j=some k'->t₁.get (posOf k')=some v'->cZ v'=some b->b.num<σ.next.num:=fun j o' k' v' b hjd hjl ho' hk hd hv hb=>by
  obtain⟨o'',ti,e,_,_,bw,_,h4,h5⟩:=hj.As j hjd hjl;rw[ho'] at e;cases e;rw[hother j hjd k' hd] at hv;rw[gN ho'] at hd;cases bw with
  | false=>rw[h4 rfl k' hd] at hv;cases hv;cases hb
  | true=>
   have:=h5 rfl;unfold lH at this;rw[hk] at this;obtain⟨ob,mk,b',g1,g2,g3,g4,g5,g6⟩:=this;rw[g6 k' hd] at hv;cases hv;rw[xT] at hb;cases hb;exact g5
 refine⟨hrun,hok,hinv,hj.Jz.trans ar,hj.dr,hj.gr,hj.JB,hj.HN,fun j h=>?_,⟨hh.dep,hj.ord⟩,fun j h=>mC_ _ (hj.sub j h),fun j h hv=>?_,hj.closed,fun j q hq h ha=>?_,fun j h k hk=>?_,fun j k u hL hk hu=>?_,hj.AK,fun k hk=>?_,fun j h hjl=>?_,?_⟩
 ·rcases cE h with rfl | h
  ·exact hh.lt
  exact hj.JO j h
 ·rcases cE h with rfl | h
  ·rw[hl] at hv;cases hv
  exact hj.ja j h hv
 ·rcases cE h with rfl | h
  ·exact mC_ _ (tZ hs hh.lt hh.dep hj.kx q hq ha)
  exact mC_ _ (hj.kx j q hq h ha)
 ·rcases cE h with rfl | h
  ·exact(f2 k (by rw[<-hdi];exact hk)).1
  exact hj.KT j h k hk
 ·rw[hother j (hj.sub j hL) k hk] at hu;exact hj.AL j k u hL hk hu
 ·rw[f1 k (fun e=>hk i (mS_ ..) (by rw[hdi];exact e))];exact hj.same k fun j h=>hk j (mC_ _ h)
 ·rcases cE h with rfl | h
  ·exact hpend
  exact hpend' j h hjl
 intro j q o' o'' k k' u u' b h1 h2 h3 h4 h5 h6 h7 h8 h9 h10 h11 h12 h13 h14;rcases cE h1 with rfl | m1<;>rcases cE h2 with rfl | m2
 ·rfl
 ·rw[ho] at h5;cases h5;have:=hfar q o'' k' u' b m2 h4 h6 h8 h10 h12 h14;have e:=(f2 k (by rw[<-hdi];exact h9)).2;rw[e] at h11;cases h11;have:=hblk b h13 h7;omega
 ·rw[ho] at h6;cases h6;have:=hfar j o' k u b m1 h3 h5 h7 h9 h11 h13;have e:=(f2 k' (by rw[<-hdi];exact h10)).2;rw[e] at h12;cases h12;have:=hblk b h14 h8;omega
 rw[hother j m1 k h9] at h11;rw[hother q m2 k' h10] at h12;exact hj.apart j q o' o'' k k' u u' b m1 m2 h3 h4 h5 h6 h7 h8 h9 h10 h11 h12 h13 h14
theorem Inv.Bv (hi:Inv ρ σ w) (ob:bQ):tT ρ (σ.alloc ob) w/\dZ ρ σ w ρ (σ.alloc ob) w/\∀b o,σ.m.get b=some o->(σ.alloc ob).m.get b=some o:=by
 have hnone:ρ σ.next=none:=(hi.fresh _ (nR_ _)).1;have hget:∀b,b≠σ.next->(σ.alloc ob).m.get b=σ.m.get b:=fun b hb=>PT.cV _ _ _ _ hb
 have back:∀b o l,(σ.alloc ob).m.get b=some o->ρ b=some l->σ.m.get b=some o:=fun b o l h hl=>by
  by_cases e:b=σ.next
  ·subst e;rw[hnone] at hl;cases hl
  rw[hget b e] at h;exact h
 refine⟨⟨fun b hb=>?_,hi.cZ,fun b o l h hl=>hi.obj b o l (back b o l h hl) hl,fun b b' o o' l l' h1 h2 h3 h4=>hi.inj b b' o o' l l' (back b o l h1 h3) (back b' o' l' h2 h4) h3 h4⟩,⟨fun _ _=>rfl,?_,nR_ _,fun _ _ _=>rfl,?_,rfl,rfl,rfl⟩,fun b o h=>?_⟩
 ·have hb':σ.next.num+1<=b.num:=by simpa [aD.alloc,Pos.iv] using hb
  have hne:b≠σ.next:=fun e=>by subst e;omega
  rw[hget b hne];exact hi.fresh b (by omega)
 ·simp[aD.alloc,Pos.iv]
 ·rintro r ⟨b,o,l,h1,h2,h3,rfl⟩ _;exact⟨b,o,l,back b o l h1 h3,h2,h3,rfl⟩
 by_cases e:b=σ.next
 ·subst e;rw[(hi.fresh _ (nR_ _)).2] at h;cases h
 rw[hget b e];exact h
theorem Inv.ahead (hi:Inv ρ σ w) (ob:bQ):Inv ρ (σ.alloc ob) w/\dZ ρ σ w ρ (σ.alloc ob) w/\∀b o,σ.m.get b=some o->(σ.alloc ob).m.get b=some o:=
 let ⟨h1,h2,h3⟩:=hi.Bv ob;⟨⟨h1,hi.nr.of h2⟩,h2,h3⟩
theorem aD.ED (σ:aD) (ob:bQ):(σ.alloc ob).m.get σ.next=some ob:=PT.cY _ _ _
theorem J.Lk (hs:Shape P ops A) {i:Nat} {rc:List Nat} (hj:J P G ih ops A n d fin ρ₀ σ₀ w₀ t₀ ((i,rc)::l) done t σ listed ρ w a) (hl:jb P ops i=false) (hfin:∀k,fin≠ .err k):
  ∃t₁ σ₁,J P G ih ops A n d fin ρ₀ σ₀ w₀ t₀ l (i::done) t₁ σ₁ listed ρ w a:=by
 obtain⟨hh,hok⟩:=hj.ok;obtain⟨o,ho⟩:∃o,ops[i]?=some o:=⟨ops[i]'hh.lt,aG_ hh.lt⟩
 have hrun:(match ops[i]? with
   | some o=>iw P G ih false ops n o t σ (fun t' σ'=>bif cM P G ops t' σ' rc then jh P G ih ops n d l t' σ' else .err 86)
   | none=>.err 87)=fin:=hj.run
 rw[ho] at hrun;dsimp only at hrun;have hhead:=hj.uR hs ho hh.new
 have hcont:∀t₁ σ₁,(bif cM P G ops t₁ σ₁ rc then jh P G ih ops n d l t₁ σ₁ else .err 86)=fin->jh P G ih ops n d l t₁ σ₁=fin:=fun t₁ σ₁ h=>by
  rw[a0] at h;split at h
  ·exact h
  exact absurd h.symm (hfin 86)
 have hanc:∀{v:AV} {t₁:PT AV},cO t n o.dst v=some t₁->∀k∈slotsOf ops o,∀j,pL A i j=true->eB ops j=some k->t.get (posOf k)=t₁.get (posOf k):=fun hp k hk j ha hjk=>by
  refine((lu hp).1 k fun e=>?_).symm;have:=hs.uniq i j k (by rw[gN ho];exact e) hjk;subst this;exact hh.new (tZ hs hh.lt hh.dep hj.kx i hh.lt ha)
 unfold iw at hrun;cases hw:bu ops t o with
 | none=>rw[hw] at hrun;exact absurd hrun.symm (hfin 85)
 | some bw=>
  rw[hw] at hrun;cases bw with
  | false=>
   dsimp only at hrun;cases hp:cO t n o.dst unit with
   | none=>rw[hp] at hrun;exact absurd hrun.symm (hfin 84)
   | some t₁=>
    rw[hp] at hrun;refine⟨t₁,σ,hj.ahead hs hl ho hp (hcont _ _ hrun) hj.inv (dZ.refl _ _ _) (fun _ _ h=>h) (fun b hb=>by cases hb) ?_⟩;exact⟨o,t,ho,hanc hp,hhead,false,hw,fun _ k hk=>((lu hp).2 k hk).2,fun h=>by cases h⟩
  | true=>
   dsimp only at hrun
   have main:∀(v:AV) (σ₁:aD),kA P G ih (dJ P G (bo G t) σ o.op)= .ret v σ₁->Inv ρ σ₁ w->dZ ρ σ w ρ σ₁ w->(∀b o,σ.m.get b=some o->σ₁.m.get b=some o)->
     (∀b,cZ v=some b->kindOf P o.op= .alloc->σ.next.num<=b.num)->(∀t₁,(∀k,o.dst=some k->t₁.get (posOf k)=some v)->lH P G t₁ σ₁ ρ σ₀.next.num t o)->
     ∃t₁ σ₁,J P G ih ops A n d fin ρ₀ σ₀ w₀ t₀ l (i::done) t₁ σ₁ listed ρ w a:=by
    intro v σ₁ he hinv ar hget hblk hpv;rw[he] at hrun;dsimp only at hrun;cases hp:cO t n o.dst v with
    | none=>rw[hp] at hrun;exact absurd hrun.symm (hfin 80)
    | some t₁=>
     rw[hp] at hrun;refine⟨t₁,σ₁,hj.ahead hs hl ho hp (hcont _ _ hrun) hinv ar hget hblk ?_⟩;exact⟨o,t,ho,hanc hp,hhead,true,hw,fun h=>(by cases h),fun _=>hpv t₁ fun k hk=>((lu hp).2 k hk).2⟩
   cases hk:kindOf P o.op with
   | ja=>simp[jb,B7,ho,hk] at hl
   | pure=>
    cases hv:dg P (bo G t) o.op with
    | none=>
     have:kA P G ih (dJ P G (bo G t) σ o.op)= .err (Nat.add 1000 (rD o.op)):=by unfold dJ;rw[hk];dsimp only;rw[hv];rfl
     rw[this] at hrun;exact absurd hrun.symm (hfin _)
    | some v=>
     have:kA P G ih (dJ P G (bo G t) σ o.op)= .ret v σ:=by unfold dJ;rw[hk];dsimp only;rw[hv];rfl
     refine main v σ this hj.inv (dZ.refl _ _ _) (fun _ _ h=>h) (fun b _ h=>by rw[hk] at h;cases h) fun t₁ ht₁=>?_
     unfold lH;rw[hk];exact⟨v,hv,ht₁⟩
   | read=>
    cases hv:fV P (bo G t) σ o.op with
    | none=>
     have:kA P G ih (dJ P G (bo G t) σ o.op)= .err (Nat.add 2000 (rD o.op)):=by unfold dJ;rw[hk];dsimp only;rw[hv];rfl
     rw[this] at hrun;exact absurd hrun.symm (hfin _)
    | some v=>
     have:kA P G ih (dJ P G (bo G t) σ o.op)= .ret v σ:=by unfold dJ;rw[hk];dsimp only;rw[hv];rfl
     refine main v σ this hj.inv (dZ.refl _ _ _) (fun _ _ h=>h) (fun b _ h=>by rw[hk] at h;cases h) fun t₁ ht₁=>?_
     unfold lH;rw[hk];exact⟨v,hv,ht₁⟩
   | alloc=>
    cases hv:eU P (bo G t) o.op with
    | none=>
     have:kA P G ih (dJ P G (bo G t) σ o.op)= .err (Nat.add 3000 (rD o.op)):=by unfold dJ;rw[hk];dsimp only;rw[hv];rfl
     rw[this] at hrun;exact absurd hrun.symm (hfin _)
    | some p=>
     obtain⟨ob,mk⟩:=p;have:kA P G ih (dJ P G (bo G t) σ o.op)= .ret (mk.of σ.next) (σ.alloc ob):=by unfold dJ;rw[hk];dsimp only;rw[hv];rfl
     obtain⟨g1,g2,g3⟩:=hj.inv.ahead ob;refine main _ _ this g1 g2 g3 (fun b hb _=>by rw[xT] at hb;cases hb;exact nR_ _) fun t₁ ht₁=>?_
     unfold lH;rw[hk];exact⟨ob,mk,σ.next,hv,aD.ED σ ob,(hj.inv.fresh _ (nR_ _)).1,hj.Jz.next,by simp[aD.alloc,Pos.iv],ht₁⟩
theorem J.advance (hs:Shape P ops A) (hfin:∀k,fin≠ .err k):∀(l:List (Nat×List Nat)) (done:List Nat) (t:PT AV) (σ:aD),J P G ih ops A n d fin ρ₀ σ₀ w₀ t₀ l done t σ listed ρ w a->
  ∃l' done' t' σ',J P G ih ops A n d fin ρ₀ σ₀ w₀ t₀ l' done' t' σ' listed ρ w a/\(l'= []∨∃i rc r,l'=(i,rc)::r/\jb P ops i=true)
 | [],done,t,σ,hj=>⟨[],done,t,σ,hj,.inl rfl⟩
 | (i,rc)::l,done,t,σ,hj=>by
  cases hl:jb P ops i with
  | true=>exact⟨_,done,t,σ,hj,.inr ⟨i,rc,l,rfl,hl⟩⟩
  | false=>
   obtain⟨t₁,σ₁,hj₁⟩:=hj.Lk hs hl hfin;exact J.advance hs hfin l _ t₁ σ₁ hj₁
end
section
variable {P:Program} {G:Cx} {ih:iE} {ops:Array Oper} {A:Array Nat} {n:Nat} {d:List DE} {fin:CR} {ρ₀:cz} {σ₀:aD} {w₀:World} {t₀:PT AV}
variable {l:List (Nat×List Nat)} {done:List Nat} {t:PT AV} {σ:aD} {listed:Array Bool} {ρ:cz} {w:World} {a:Act}
theorem J.behind (hs:Shape P ops A) (hj:J P G ih ops A n d fin ρ₀ σ₀ w₀ t₀ l done t σ listed ρ w a) {i:Nat} {o:Oper} {x:Value} {ρ₁:cz} {w₁:World} (ho:ops[i]?=some o) (hid:i∈done) (hn:¬Li listed i)
  (hr:∀j,j<ops.size->pL A i j=true->Li listed j) (hv:∀k v,o.dst=some k->t.get (posOf k)=some v->VR ρ₁ v x) (hinv:Inv ρ₁ σ w₁) (ar:dZ ρ₀ σ₀ w₀ ρ₁ σ w₁) (hle:ρ.le ρ₁)
  (hren:∀j∈done,¬Li listed j->j≠i->pE P G ops A t₀ t σ ρ₁ σ₀.next.num j):J P G ih ops A n d fin ρ₀ σ₀ w₀ t₀ l done t σ (listed.setIfInBounds i true) ρ₁ w₁ (a.put o.dst x):=by
 have hil:i<listed.size:=by rw[hj.HN];exact hj.JO i hid
 have hdi:eB ops i=o.dst:=gN ho;obtain⟨p1,p2,p3⟩:=G8 (a:=a) (dst:=o.dst) (x:=x);have hset:∀{j},Li (listed.setIfInBounds i true) j↔j=i∨Li listed j:=xO hil
 refine⟨hj.run,hj.ok,hinv,ar,by rw[put_defers];exact hj.dr.mono hle,hj.gr.mono hle,by rw[p3];exact hj.JB,by simpa using hj.HN,hj.JO,hj.ord,fun j h=>?_,fun j h hh=>hset.2 (.inr (hj.ja j h hh)),fun j q hq h ha=>?_,hj.kx,hj.KT,
  fun j k v h hk hu=>?_,fun k v h hu=>?_,hj.same,fun j h hl=>?_,?_⟩
 ·rcases hset.1 h with rfl | h
  ·exact hid
  exact hj.sub j h
 ·rcases hset.1 h with rfl | h
  ·exact hset.2 (.inr (hr q hq ha))
  exact hset.2 (.inr (hj.closed j q hq h ha))
 ·by_cases e:j=i
  ·subst e;rw[hdi] at hk;rw[p2 k hk (by rw[hj.JB];exact hj.KT j hid k (by rw[hdi];exact hk))];exact hv k v hk hu
  have hL:=(hset.1 h).resolve_left e;rw[p1 k (fun e'=>e (hs.uniq j i k hk (by rw[hdi];exact e')))];exact VR.mono hle _ _ (hj.AL j k v hL hk hu)
 ·rw[p1 k (fun e'=>h i (hset.2 (.inl rfl)) (by rw[hdi];exact e'))];obtain⟨q1,q2⟩:=hj.AK k v (fun j hL=>h j (hset.2 (.inr hL))) hu;exact⟨q1,VR.mono hle _ _ q2⟩
 ·exact hren j h (fun hL=>hl (hset.2 (.inr hL))) (fun e=>hl (hset.2 (.inl e)))
 intro j q o' o'' k k' u u' b h1 h2 h3 h4;exact hj.apart j q o' o'' k k' u u' b h1 h2 (fun hL=>h3 (hset.2 (.inr hL))) (fun hL=>h4 (hset.2 (.inr hL)))
theorem rO {t₁:PT AV} {σ₁:aD}:∀{rc:List Nat} {j:Nat},cM P G ops t₁ σ₁ rc=true->j∈rc->ie P G ops t₁ σ₁ j=true
 | [],j,_,hj=>by cases hj
 | i::rc,j,h,hj=>by
  have h':(bif ie P G ops t₁ σ₁ i then cM P G ops t₁ σ₁ rc else false)=true:=h;rw[a0] at h';split at h'
  ·rename_i hi;rcases cE hj with rfl | hj
   ·exact hi
   exact rO h' hj
  cases h'
theorem J.LC (hs:Shape P ops A) {i:Nat} {rc:List Nat} (hj:J P G ih ops A n d fin ρ₀ σ₀ w₀ t₀ ((i,rc)::l) done t σ listed ρ w a) (hl:jb P ops i=true) {o:Oper} (ho:ops[i]?=some o)
  (hr:∀j,j<ops.size->pL A i j=true->Li listed j) {v:AV} {x:Value} {t₁:PT AV} {σ₁:aD} {ρ₁:cz} {w₁:World} (hp:cO t n o.dst v=some t₁) (hstill:cM P G ops t₁ σ₁ rc=true) (hrun:jh P G ih ops n d l t₁ σ₁=fin)
  (hv:VR ρ₁ v x) (hinv:Inv ρ₁ σ₁ w₁) (ar:dZ ρ σ w ρ₁ σ₁ w₁):J P G ih ops A n d fin ρ₀ σ₀ w₀ t₀ l (i::done) t₁ σ₁ (listed.setIfInBounds i true) ρ₁ w₁ (a.put o.dst x):=by
 obtain⟨hh,hok⟩:=hj.ok;obtain⟨f1,f2⟩:=lu hp;have hle:=ar.le hj.inv;have hil:i<listed.size:=by rw[hj.HN];exact hh.lt
 have hdi:eB ops i=o.dst:=gN ho;obtain⟨p1,p2,p3⟩:=G8 (a:=a) (dst:=o.dst) (x:=x);have hset:∀{j},Li (listed.setIfInBounds i true) j↔j=i∨Li listed j:=xO hil;have hnL:¬Li listed i:=fun h=>hh.new (hj.sub i h)
 have hother:∀j∈done,∀k,eB ops j=some k->t₁.get (posOf k)=t.get (posOf k):=fun j hjd k hk=>f1 k fun e=>by
  have:=hs.uniq i j k (by rw[hdi];exact e) hk;subst this;exact hh.new hjd
 refine⟨hrun,hok,hinv,hj.Jz.trans ar,by rw[put_defers];exact hj.dr.mono hle,hj.gr.mono hle,by rw[p3];exact hj.JB,by simpa using hj.HN,fun j h=>?_,⟨hh.dep,hj.ord⟩,fun j h=>?_,fun j h hv=>?_,fun j q hq h ha=>?_,fun j q hq h ha=>?_,fun j h k hk=>?_,
  fun j k u h hk hu=>?_,fun k u h hu=>?_,fun k hk=>?_,fun j h hjl=>?_,?_⟩
 ·rcases cE h with rfl | h
  ·exact hh.lt
  exact hj.JO j h
 ·rcases hset.1 h with rfl | h
  ·exact mS_ ..
  exact mC_ _ (hj.sub j h)
 ·rcases cE h with rfl | h
  ·exact hset.2 (.inl rfl)
  exact hset.2 (.inr (hj.ja j h hv))
 ·rcases hset.1 h with rfl | h
  ·exact hset.2 (.inr (hr q hq ha))
  exact hset.2 (.inr (hj.closed j q hq h ha))
 ·rcases cE h with rfl | h
  ·exact mC_ _ (tZ hs hh.lt hh.dep hj.kx q hq ha)
  exact mC_ _ (hj.kx j q hq h ha)
 ·rcases cE h with rfl | h
  ·exact(f2 k (by rw[<-hdi];exact hk)).1
  exact hj.KT j h k hk
 ·by_cases e:j=i
  ·subst e;rw[hdi] at hk;obtain⟨q1,q2⟩:=f2 k hk;rw[p2 k hk (by rw[hj.JB];exact q1)];rw[q2] at hu;cases hu;exact hv
  have hL:=(hset.1 h).resolve_left e;rw[p1 k (fun e'=>e (hs.uniq j i k hk (by rw[hdi];exact e')))];rw[hother j (hj.sub j hL) k hk] at hu;exact VR.mono hle _ _ (hj.AL j k u hL hk hu)
 ·rw[p1 k (fun e'=>h i (hset.2 (.inl rfl)) (by rw[hdi];exact e'))];obtain⟨q1,q2⟩:=hj.AK k u (fun j hL=>h j (hset.2 (.inr hL))) hu;exact⟨q1,VR.mono hle _ _ q2⟩
 ·rw[f1 k (fun e=>hk i (mS_ ..) (by rw[hdi];exact e))];exact hj.same k fun j h=>hk j (mC_ _ h)
 ·have hji:j≠i:=fun e=>hjl (hset.2 (.inl e))
  have hjL:¬Li listed j:=fun hL=>hjl (hset.2 (.inr hL))
  have hjd:j∈done:=(cE h).resolve_left hji;refine(hj.As j hjd hjL).again hs (fun k hk=>?_) (fun k hk=>?_) (fun hlm=>?_) (fun b hb=>ar.ext b hb) ar.next
  ·rcases hk with hk | ⟨q,hq,hk⟩
   ·exact hother j hjd k hk
   exact hother q (hj.kx j q (kX hk) hjd hq) k hk
  ·rw[f1 k (fun e=>hk i (by rw[hdi];exact e))];exact hj.same k fun j _=>hk j
  rcases hh.again hl j hjd hlm with ha | hm
  ·exact absurd (hr j (hj.JO j hjd) ha) hjL
  exact rO hstill hm
 intro j q o' o'' k k' u u' b h1 h2 h3 h4 h5 h6 h7 h8 h9 h10 h11 h12 h13 h14;have m1:j∈done:=(cE h1).resolve_left fun e=>h3 (hset.2 (.inl e))
 have m2:q∈done:=(cE h2).resolve_left fun e=>h4 (hset.2 (.inl e))
 rw[hother j m1 k h9] at h11;rw[hother q m2 k' h10] at h12;exact hj.apart j q o' o'' k k' u u' b m1 m2 (fun hL=>h3 (hset.2 (.inr hL))) (fun hL=>h4 (hset.2 (.inr hL))) h5 h6 h7 h8 h9 h10 h11 h12 h13 h14
theorem Az {i:Nat} (hsz:listed.size=ops.size) (h:i∈Region.ready .any ops listed):i<ops.size/\¬Li listed i/\∀j,waits ops i j=true->Li listed j:=by
 obtain⟨h1,o,ho,h2⟩:=mem_ready.1 h;have hlt:=(aS_.1 ho).1;refine⟨hlt,(GU (by rw[hsz];exact hlt)).1 h1,fun j hw=>?_⟩;obtain⟨o',ho',e,he,hb,rfl⟩:=pB.1 hw;rw[ho] at ho';cases ho';exact h2 e he hb
theorem Ay {i:Nat} (hsz:listed.size=ops.size) (hlt:i<ops.size) (hn:¬Li listed i) (hw:∀j,waits ops i j=true->Li listed j):i∈Region.ready .any ops listed:=
 mem_ready.2 ⟨(GU (by rw[hsz];exact hlt)).2 hn,ops[i]'hlt,aG_ hlt,fun e he hb=>hw _ (pB.2 ⟨_,aG_ hlt,e,he,hb,rfl⟩)⟩
theorem xu:∀{done:List Nat},Ord ops done->(∃i∈done,¬Li listed i)->∃i∈done,¬Li listed i/\∀j,waits ops i j=true->Li listed j
 | [],_,⟨i,hi,_⟩=>by cases hi
 | i::r,ho,⟨q,hq,hn⟩=>by
  by_cases hr:∃j∈r,¬Li listed j
  ·obtain⟨j,h1,h2,h3⟩:=xu ho.2 hr;exact⟨j,mC_ _ h1,h2,h3⟩
  have hall:∀j∈r,Li listed j:=fun j hj=>Classical.byContradiction fun h=>hr ⟨j,hj,h⟩
  rcases cE hq with rfl | hq
  ·exact⟨q,mS_ ..,hn,fun j hw=>hall j (ho.1 j hw)⟩
  exact absurd (hall q hq) hn
theorem J.all (hs:Shape P ops A) (hj:J P G ih ops A n d fin ρ₀ σ₀ w₀ t₀ l done t σ listed ρ w a) (hr:Region.ready .any ops listed= []):∀i,i<ops.size->Li listed i:=by
 have hall:∀i∈done,Li listed i:=fun i hi=>Classical.byContradiction fun h=>by
  obtain⟨q,h1,h2,h3⟩:=xu hj.ord ⟨i,hi,h⟩;have:=Ay hj.HN (hj.JO q h1) h2 h3;rw[hr] at this;cases this
 intro i hi;cases l with
 | nil=>
  have:=hj.ok;exact hall i (this i hi)
 | cons p l=>
  obtain⟨q,rc⟩:=p;obtain⟨hh,_⟩:=hj.ok;have:=Ay (listed:=listed) hj.HN hh.lt (fun h=>hh.new (hj.sub q h)) (fun j hw=>hall j (hh.dep j hw));rw[hr] at this;cases this
theorem J.finish (hs:Shape P ops A) (hj:J P G ih ops A n d fin ρ₀ σ₀ w₀ t₀ l done t σ listed ρ w a) (hall:∀i,i<ops.size->Li listed i):fin= .ok .normal t d σ/\TR ρ t n a.tmps:=by
 cases l with
 | nil=>
  refine⟨hj.run.symm,hj.JB,fun k v hv=>?_⟩
  by_cases hw:∃i,eB ops i=some k
  ·obtain⟨i,hi⟩:=hw;have hL:=hall i (kX hi);exact⟨hj.KT i (hj.sub i hL) k hi,hj.AL i k v hL hi hv⟩
  rw[hj.same k fun i _ hi=>hw ⟨i,hi⟩] at hv;exact hj.AK k v (fun i _ hi=>hw ⟨i,hi⟩) hv
 | cons p l=>
  obtain⟨q,rc⟩:=p;obtain⟨hh,_⟩:=hj.ok;exact absurd (hj.sub q (hall q hh.lt)) hh.new
def left (N:Nat) (listed:Array Bool):Nat:=(List.range N).countP fun i=> !listed.getD i false
theorem wR {α:Type} {p q:α->Bool}:∀{l:List α} {x:α},(∀y∈l,q y=true->p y=true)->x∈l->p x=true->q x=false->l.countP q<l.countP p
 | [],x,_,hx,_,_=>by cases hx
 | y::l,x,h,hx,hp,hq=>by
  have hle:l.countP q<=l.countP p:=List.countP_mono_left fun z hz=>h z (mC_ _ hz)
  rcases cE hx with rfl | hx
  ·simp[List.countP_cons,hp,hq];omega
  have:=wR (fun z hz=>h z (mC_ _ hz)) hx hp hq;rw[List.countP_cons,List.countP_cons];cases hy:q y with
  | false=>simp;omega
  | true=>rw[h y (mS_ ..) hy];simp;omega
theorem GD {N i:Nat} (hi:i<N) (hsz:listed.size=N) (hn:¬Li listed i):left N (listed.setIfInBounds i true)<left N listed:=by
 refine wR (x:=i) (fun y _ hy=>?_) (List.mem_range.2 hi) ?_ ?_
 ·by_cases h:Li listed y
  ·have:Li (listed.setIfInBounds i true) y:=(xO (by rw[hsz];exact hi)).2 (.inr h);unfold Li at this;rw[this] at hy;cases hy
  unfold Li at h;simpa using h
 ·unfold Li at hn;simpa using hn
 have:Li (listed.setIfInBounds i true) i:=(xO (by rw[hsz];exact hi)).2 (.inl rfl);unfold Li at this;rw[this];rfl
theorem EP {N:Nat} (h:left N listed=0):∀i,i<N->Li listed i:=fun i hi=>by
 have:=List.countP_eq_zero.1 h i (List.mem_range.2 hi);unfold Li;simpa using this
theorem Inv.lay (hi:Inv ρ σ w) {b:Pos} {l:Loc} {ob:bQ} {x:Obj} (hb:σ.m.get b=some ob) (hn:ρ b=none) (hlt:b.num<σ.next.num) (hl:l.cZ=w.heap.size) (ho:gn ρ l ob x):Inv (ρ.with b l) σ (w.alloc x)/\ρ.le (ρ.with b l):=by
 have hle:ρ.le (ρ.with b l):=fun b' l' hb'=>by
  rw[cz.dB]; · exact hb'
  intro e;subst e;rw[hn] at hb';cases hb'
 have hold:∀b' l',b'≠b->(ρ.with b l) b'=some l'->ρ b'=some l':=fun b' l' hne h=>by rwa[cz.dB ρ l hne] at h
 have hold2:Old (ρ.with b l) σ (w.alloc x):=by
  refine⟨by have:=hi.nr.size;simp;omega,fun r hr=>by rw[heap_alloc_old w x (Nat.lt_of_lt_of_le hr hi.nr.size)];exact hi.nr.same r hr,fun r hr ⟨b',o',l',h1,h2,h3,h4⟩=>?_⟩
  by_cases e:b'=b
  ·subst e;rw[cz.b0] at h3;cases h3;have:=hi.nr.size;omega
  exact hi.nr.no r hr ⟨b',o',l',h1,h2,hold b' l' e h3,h4⟩
 refine⟨⟨⟨fun b' hb'=>?_,fun b' l' hb'=>?_,fun b' o' l' hb' hl'=>?_,fun b₁ b₂ o₁ o₂ l₁ l₂ h1 h2 h3 h4 h5 h6=>?_⟩,hold2⟩,hle⟩
 ·have hne:b'≠b:=fun e=>by subst e;omega
  rw[cz.dB ρ l hne];exact hi.fresh b' hb'
 ·simp only[World.size_alloc]
  by_cases e:b'=b
  ·subst e;rw[cz.b0] at hb';cases hb';omega
  have:=hi.cZ b' l' (hold b' l' e hb');omega
 ·by_cases e:b'=b
  ·subst e;rw[cz.b0] at hl';cases hl';rw[hb] at hb';cases hb';exact⟨x,by rw[hl];exact heap_alloc_new w x,ho.mono hle⟩
  have h':=hold b' l' e hl';obtain⟨y,hy,hr⟩:=hi.obj b' o' l' hb' h';exact⟨y,by rw[heap_alloc_old w x (hi.cZ b' l' h')];exact hy,hr.mono hle⟩
 by_cases e1:b₁=b<;>by_cases e2:b₂=b
 ·exact absurd (e1.trans e2.symm) h6
 ·subst e1;rw[cz.b0] at h3;cases h3;have:=hi.cZ b₂ l₂ (hold b₂ l₂ e2 h4);omega
 ·subst e2;rw[cz.b0] at h4;cases h4;have:=hi.cZ b₁ l₁ (hold b₁ l₁ e1 h3);omega
 exact hi.inj b₁ b₂ o₁ o₂ l₁ l₂ h1 h2 (hold b₁ l₁ e1 h3) (hold b₂ l₂ e2 h4) h5 h6
theorem dZ.lay (ar:dZ ρ₀ σ₀ w₀ ρ σ w) {b:Pos} {l:Loc} {x:Obj} (hlo:σ₀.next.num<=b.num) (hl:l.cZ=w.heap.size):dZ ρ₀ σ₀ w₀ (ρ.with b l) σ (w.alloc x):=by
 refine⟨fun b' hb'=>?_,ar.next,by have:=ar.size;simp;omega,fun r hr hn=>?_,?_,ar.tape,ar.os,ar.out⟩
 ·rw[cz.dB ρ l (fun e=>by subst e;omega)];exact ar.ext b' hb'
 ·rw[heap_alloc_old w x (by have:=ar.size;omega)];exact ar.frame r hr hn
 rintro r ⟨b',o',l',h1,h2,h3,rfl⟩ hr
 by_cases e:b'=b
 ·subst e;rw[cz.b0] at h3;cases h3;have:=ar.size;omega
 rw[cz.dB ρ l e] at h3;exact ar.wr _ ⟨b',o',l',h1,h2,h3,rfl⟩ hr
theorem J.take (hs:Shape P ops A) (hj:J P G ih ops A n d fin ρ₀ σ₀ w₀ t₀ l done t σ listed ρ w a) {i:Nat} (hid:i∈done) (hn:¬Li listed i) (hw:∀j,waits ops i j=true->Li listed j) (rl:Option Nat) (m:Nat) {Q:Exit->Act->World->Prop} {K:Act->World->Prop}
  (hK:∀ρ₁ w₁ a₁,J P G ih ops A n d fin ρ₀ σ₀ w₀ t₀ l done t σ (listed.setIfInBounds i true) ρ₁ w₁ a₁->K a₁ w₁):wpOpIn (jq rl) m P ops Q i K a w:=by
 have hr:=ua hs (hj.JO i hid) hw hj.closed;obtain⟨o,ti,ho,h1,h2,bw,h3,h4,h5⟩:=hj.As i hid hn;have hlook:=hj.look hs ho hn hr h1 h2;unfold wpOpIn;rw[ho];dsimp only;rw[tf hj.JB hlook h3];cases bw with
 | false=>
  simp only[Bool.false_eq_true,if_false];exact⟨fun f _=>iy rl f,hK ρ w _ (hj.behind hs ho hid hn hr (fun k v hk hv=>by rw[h4 rfl k hk] at hv;cases hv;exact km) hj.inv hj.Jz (fun _ _ h=>h) fun j hjd hjl _=>hj.As j hjd hjl)⟩
 | true=>
  simp only[if_true];have hE:ER ρ (bo G ti) a.eval o.op:=Dl hj.gr hlook;have hv:=h5 rfl;unfold lH at hv;have hnd:kindOf P o.op≠ .ja->∀c,o.op≠ .defer c:=fun hk c e=>hk (by rw[e];rfl)
  unfold Oper.wpIn;refine⟨fun f _=>iy rl f,?_⟩;cases hk:kindOf P o.op with
  | ja=>rw[hk] at hv;exact hv.elim
  | pure=>
   rw[hk] at hv;obtain⟨v,g1,g2⟩:=hv;obtain⟨x,hx,hvx⟩:=vA (P:=P) (w:=w) hE g1;rw[Oper.semAt_eq _ _ _ (hnd (by rw[hk];simp)),hx,Oper.uponIn_value];exact hK ρ w _ (hj.behind hs ho hid hn hr (fun k u hk hu=>by rw[g2 k hk] at hu;cases hu;exact hvx) hj.inv hj.Jz (fun _ _ h=>h) fun j hjd hjl _=>hj.As j hjd hjl)
  | read=>
   rw[hk] at hv;obtain⟨v,g1,g2⟩:=hv;obtain⟨x,hx,hvx⟩:=vF (P:=P) hj.inv hE g1;rw[Oper.semAt_eq _ _ _ (hnd (by rw[hk];simp)),hx,Oper.uponIn_value];exact hK ρ w _ (hj.behind hs ho hid hn hr (fun k u hk hu=>by rw[g2 k hk] at hu;cases hu;exact hvx) hj.inv hj.Jz (fun _ _ h=>h) fun j hjd hjl _=>hj.As j hjd hjl)
  | alloc=>
   rw[hk] at hv;obtain⟨ob,mk,b,g1,g2,g3,g4,g5,g6⟩:=hv;obtain⟨x,ob',c,hx,hro,hob,hvx⟩:=sT (P:=P) (w:=w) hE g1;rw[Oper.semAt_eq _ _ _ (hnd (by rw[hk];simp)),hx,Oper.uponIn_value];obtain⟨inv,hle⟩:=hj.inv.lay (l:=⟨w.heap.size,0,c⟩) g2 g3 g5 rfl hob;obtain⟨kd,hkd⟩:=hs.dst i o ho (by simp[fA,sw,ho,hk]);refine hK _ _ _ (hj.behind hs ho hid hn hr (fun k u hk hu=>by rw[g6 k hk] at hu;cases hu;exact hvx _ b (cz.b0 _ _ _)) inv (hj.Jz.lay g4 rfl) hle fun j hjd hjl hji=>?_);refine(hj.As j hjd hjl).MV hs fun b' hb' hb'n=>?_
   obtain⟨o',k',v',q1,q2,q3,q4,q5⟩:=hb';rw[cz.dB]
   ·exact hb'n
   intro e;subst e;exact hji (hj.apart j i o' o k' kd v' (mk.of b') b' hjd hid hjl hn q1 ho q2 hk q3 (by rw[gN ho];exact hkd) q4 (g6 kd hkd) q5 (xT mk b'))
theorem F1 (hs:Shape P ops A) (hS:Sound P G ih) (rl:Option Nat) (m:Nat) {Q:Exit->Act->World->Prop} {e:Ex} {t':PT AV} {d':List DE} {σ':aD} (hfin:fin= .ok e t' d' σ')
  (hQ:∀(ρ':cz) (w':World) (a':Act),Inv ρ' σ' w'->dZ ρ₀ σ₀ w₀ ρ' σ' w'->TR ρ' t' n a'.tmps->DR ρ' d' a'.defers->Qx Q ρ' e a' w'):
  ∀(fuel:Nat) (l:List (Nat×List Nat)) (done:List Nat) (t:PT AV) (σ:aD) (listed:Array Bool) (ρ:cz) (w:World) (a:Act),J P G ih ops A n d fin ρ₀ σ₀ w₀ t₀ l done t σ listed ρ w a->left ops.size listed<=fuel->
   wpAnyIn (jq rl) m P .any ops Q fuel listed a w:=by
 have hend:∀{l done t σ listed ρ w a},J P G ih ops A n d fin ρ₀ σ₀ w₀ t₀ l done t σ listed ρ w a->Region.ready .any ops listed= []->Q .normal a w:=fun {l done t σ listed ρ w a} hj hr=>by
  obtain⟨h1,h2⟩:=hj.finish hs (hj.all hs hr);rw[hfin] at h1;cases h1;exact hQ ρ w a hj.inv hj.Jz h2 hj.dr _ rfl
 intro fuel;induction fuel with
 | zero=>
  intro l done t σ listed ρ w a hj hf;have hall:=EP (Nat.le_zero.1 hf)
  have hr:Region.ready .any ops listed= []:=by
   apply List.eq_nil_iff_forall_not_mem.2;intro i hi;obtain⟨h1,h2,_⟩:=Az hj.HN hi;exact h2 (hall i h1)
  exact⟨hr,hend hj hr⟩
 | succ fuel ihf=>
  intro l done t σ listed ρ w a hj hf;refine⟨fun hr=>hend hj hr,fun i hi=>?_⟩;obtain⟨l,done,t,σ,hj,hhead⟩:=J.advance hs (fun k=>by rw[hfin];simp) l done t σ hj;obtain⟨hlt,hn,hw⟩:=Az hj.HN hi;have hf':left ops.size (listed.setIfInBounds i true)<=fuel:=by have:=GD hlt hj.HN hn;omega
  by_cases hid:i∈done
  ·exact hj.take hs hid hn hw rl m fun ρ₁ w₁ a₁ hj₁=>ihf _ _ _ _ _ _ _ _ hj₁ hf'
  
  rcases hhead with rfl | ⟨q,rc,r,rfl,hl⟩
  ·have:=hj.ok;exact absurd (this i hlt) hid
  obtain⟨hh,_⟩:=hj.ok
  have hiq:i=q:=Classical.byContradiction fun hne=>by
   obtain⟨x,h1,h2⟩:=hh.alone hl i hlt hid hne;exact h2 (hj.sub x (hw x h1))
  subst hiq;have hr:=ua hs hlt hw hj.closed;obtain⟨o,ho⟩:∃o,ops[i]?=some o:=⟨ops[i]'hlt,aG_ hlt⟩;have hlook:=hj.look hs ho hn hr (ti:=t) (fun _ _ _ _ _=>rfl) (hj.uR hs ho hh.new)
  have hrun:(match ops[i]? with
   | some o=>iw P G ih false ops n o t σ (fun t' σ'=>bif cM P G ops t' σ' rc then jh P G ih ops n d r t' σ' else .err 86)
   | none=>.err 87)=fin:=hj.run
  rw[ho,hfin] at hrun;dsimp only at hrun
  have hcont:∀t₁ σ₁,(bif cM P G ops t₁ σ₁ rc then jh P G ih ops n d r t₁ σ₁ else .err 86)= .ok e t' d' σ'->cM P G ops t₁ σ₁ rc=true/\jh P G ih ops n d r t₁ σ₁=fin:=fun t₁ σ₁ h=>by
   rw[a0] at h;split at h
   ·rename_i ar;exact⟨ar,by rw[hfin];exact h⟩
   cases h
  unfold iw at hrun;unfold wpOpIn;rw[ho];dsimp only;cases hwa:bu ops t o with
  | none=>rw[hwa] at hrun;cases hrun
  | some bw=>
   rw[hwa] at hrun;rw[tf hj.JB hlook hwa];cases bw with
   | false=>
    dsimp only at hrun;simp only[Bool.false_eq_true,if_false];cases hp:cO t n o.dst unit with
    | none=>rw[hp] at hrun;cases hrun
    | some t₁=>
     rw[hp] at hrun;obtain⟨c1,c2⟩:=hcont _ _ hrun;exact⟨fun f _=>iy rl f,ihf _ _ _ _ _ _ _ _ (hj.LC hs hl ho hr hp c1 c2 km hj.inv (dZ.refl _ _ _)) hf'⟩
   | true=>
    dsimp only at hrun;simp only[if_true];cases he:kA P G ih (dJ P G (bo G t) σ o.op) with
    | err k=>rw[he] at hrun;cases hrun
    | iU v σ₁=>rw[he] at hrun;cases hrun
    | ret v σ₁=>
     rw[he] at hrun;dsimp only at hrun;cases hp:cO t n o.dst v with
     | none=>rw[hp] at hrun;cases hrun
     | some t₁=>
      rw[hp] at hrun;obtain⟨c1,c2⟩:=hcont _ _ hrun;exact Ap hS hj.inv hj.gr (Dl hj.gr hlook) he rl m fun ρ₁ w₁ x inv st hv=>ihf _ _ _ _ _ _ _ _ (hj.LC hs hl ho hr hp c1 c2 hv inv st) hf'
end
section
variable {P:Program} {G:Cx}
theorem iO {b:Frame} {a:Act} {k:List Item} {cs:List Frame} {w:World} {c:Code}:step P (lone (b.atR a (.code (.scope c)::k)) cs w)= .next (lone (b.atR a (.code c:: .inScope c::k)) cs w):=
 step_lone_go (by simp[stepG,stepG.exec,Frame.atR])
theorem wC {b:Frame} {a:Act} {k:List Item} {cs:List Frame} {w:World} {c:Code}:step P (lone (b.atR a (.inScope c::k)) cs w)= .next (lone (b.atR a k) cs w):=
 step_lone_go (by simp[stepG,stepG.exec,Frame.atR])
theorem CS {F:Fence} {n:Nat} {c:Code} {Q:Exit->Act->World->Prop} {a:Act} {w:World} (h:c.wpIn F n P (Exit.noGoto Q) a w):(Code.scope c).wpIn F n P Q a w:=by
 intro b k cs hro hb hr;have h0:(lone (b.atR a (.code (.scope c)::k)) cs w).fenced P F:=fenced_calm hb hr rfl;obtain⟨e,a₁,w₁,hq,harr⟩:=h b (.inScope c::k) cs hro hb hr;cases e with
 | normal=>exact⟨.normal,a₁,w₁,hq,.head h0 iO (StepsIn.trans harr (.one (fenced_calm hb hr rfl) wC))⟩
 | exit id'=>
  have hx:exitTo id' (.inScope c::k)=exitTo id' k:=by simp[exitTo]
  exact⟨.exit id',a₁,w₁,hq,fun k' hk=>.head h0 iO (harr.1 k' (by rw[hx];exact hk)),
   fun hr' hk=>let ⟨k₁,h1,h2⟩:=harr.2 hr' (by rw[hx];exact hk);⟨k₁,h1,.head h0 iO h2⟩⟩
 | goto l=>exact hq.elim
 | ret=>exact⟨_,a₁,w₁,hq,.of_steps (.one h0 iO) harr⟩
 | panic ch=>exact⟨_,a₁,w₁,hq,.of_steps (.one h0 iO) harr⟩
 | outgrown=>exact⟨_,a₁,w₁,hq,.of_steps (.one h0 iO) harr⟩
theorem jG {N i:Nat}:¬Li (Array.replicate N false) i:=by
 unfold Li;rw[Array.getD_eq_getD_getElem?,Array.getElem?_replicate];split<;>simp
theorem BP {ih:iE} (hS:Sound P G ih) {ops:Array Oper} {n:Nat} {d:List DE} {t:PT AV} {σ:aD} {e:Ex} {t':PT AV} {d':List DE} {σ':aD} (h:s5 P G ih ops n d t σ= .ok e t' d' σ')
  {ρ:cz} {w:World} {a:Act} (hi:Inv ρ σ w) (hg:GR ρ G) (ht:TR ρ t n a.tmps) (hd:DR ρ d a.defers) (rl:Option Nat) (m:Nat) {Q:Exit->Act->World->Prop}
  (hQ:∀(ρ':cz) (w':World) (a':Act),Inv ρ' σ' w'->dZ ρ σ w ρ' σ' w'->TR ρ' t' n a'.tmps->DR ρ' d' a'.defers->Qx Q ρ' e a' w'):
  wpAnyIn (jq rl) m P .any ops Q ops.size (Array.replicate ops.size false) a {w with drawn:=w.drawn+1}:=by
 unfold s5 at h;rw[a0] at h;split at h
 ·rename_i hc;obtain⟨hs,hc2⟩:=Ir hc;refine F1 (A:=xQ P ops) (n:=n) (d:=d) (t₀:=t) (ρ₀:=ρ) (σ₀:=σ) (w₀:=w) hs hS rl m rfl hQ ops.size (sE P ops) [] t σ _ ρ _ a ?_ ?_
  ·refine⟨h,hc2,hi.drew,dZ.drew ρ σ w,hd,hg,ht.1,by simp,fun i hi=>(by cases hi),trivial,fun i hL=>absurd hL jG,fun i hi=>(by cases hi),fun i j _ hL=>absurd hL jG,fun i j _ hi=>(by cases hi),fun i hi=>(by cases hi),
    fun i k v hL=>absurd hL jG,fun k v _ hv=>ht.2 k v hv,fun _ _=>rfl,fun i hi=>(by cases hi),?_⟩
   intro i j o o' k k' u u' b hi;cases hi
  exact Nat.le_trans List.countP_le_length (by simp)
 cases h
theorem zN {ro:Option Pos} {rl:Option Nat} {d d₁:List DE} {σ σ₁:aD} {df:Pos} {ρ:cz} {w:World} {a:Act} {t:PT AV} {n:Nat} (h:yt ro d σ=some (df,σ₁,d₁)) (hi:Inv ρ σ w) (ht:TR ρ t n a.tmps) (hd:DR ρ d a.defers) (hr:RO ρ ro rl)
  (fn:FuncId) (ps:Array Tmp) (assign body:Code):
  ∃l mark w₁ ρ₁,(Instr.enterLoop fn a.tmps ps assign body rl).run P w= .ok (l,mark) w₁/\Inv ρ₁ (σ₁.alloc (.loop .ready none t n ps.toList assign body df)) w₁/\dZ ρ σ w ρ₁ (σ₁.alloc (.loop .ready none t n ps.toList assign body df)) w₁/\
   ρ₁ σ₁.next=some ⟨l,0,0⟩/\DR ρ₁ d₁ (mark++a.defers):=by
 unfold yt at h;cases ro with
 | none=>
  cases rl with
  | some _=>exact hr.elim
  | none=>
  cases h;obtain⟨i1,s1⟩:=hi.alloc (o:=.mark) (x:=.deferred (some [])) (l:=⟨w.heap.size,0,0⟩) rfl rfl;have hle1:=s1.le hi
  obtain⟨i2,s2⟩:=i1.alloc (o:=.loop .ready none t n ps.toList assign body σ.next) (x:=.loop {state:=.ready,pending:=none,fn:=fn,tmps:=a.tmps,params:=ps,assign:=assign,body:=body,defers:=w.heap.size}) (l:=⟨w.heap.size+1,0,0⟩) (by simp)
   ⟨fn,a.tmps,⟨w.heap.size,0,0⟩,by simp,cz.b0 _ _ _,ht.mono hle1⟩
  refine⟨_,_,_,_,run_enterLoop_outer fn a.tmps ps assign body,i2,s1.trans s2,cz.b0 _ _ _,?_⟩;exact⟨⟨w.heap.size,0,0⟩,a.defers,s2.le i1 _ _ (cz.b0 _ _ _),rfl,hd.mono (fun b l hb=>s2.le i1 _ _ (hle1 b l hb))⟩
 | some b=>
  cases rl with
  | none=>exact hr.elim
  | some l₀=>
  obtain⟨loc,hl,rfl⟩:=hr;dsimp only at h;cases hb:σ.m.get b with
  | none=>rw[hb] at h;cases h
  | some ob=>
  rw[hb] at h;cases ob with
  | loop st p tmps n' ps' as' bd df'=>
   cases h;obtain⟨x,hh,fn',tmps',l',rfl,hdf,htm⟩:=hi.obj b _ loc hb hl
   obtain⟨i2,s2⟩:=hi.alloc (o:=.loop .ready none t n ps.toList assign body df) (x:=.loop {state:=.ready,pending:=none,fn:=fn,tmps:=a.tmps,params:=ps,assign:=assign,body:=body,defers:=l'.cZ}) (l:=⟨w.heap.size,0,0⟩) rfl
    ⟨fn,a.tmps,l',by simp,hdf,ht⟩
   exact⟨_,_,_,_,run_enterLoop_inner hh fn a.tmps ps assign body,i2,s2,cz.b0 _ _ _,hd.mono (s2.le hi)⟩
  | _=>cases h
theorem v8 {K:Act->World->Prop} {Q:Exit->Act->World->Prop} {ρ:cz} {e:Ex} {a:Act} {w:World} (he:e≠ .normal) (h:Qx Q ρ e a w):Qx (Exit.then K Q) ρ e a w:=by
 intro E hE;have h':=h E hE;cases e with
 | normal=>exact absurd rfl he
 | iU v=>obtain⟨x,rfl,_⟩:=hE;exact h'
 | exit i=>have hE:E= .exit i:=hE;subst hE;exact h'
 | goto i=>have hE:E= .goto i:=hE;subst hE;exact h'
 | ret=>have hE:E= .ret:=hE;subst hE;exact h'
theorem Av {ih:iE} (hS:Sound P G ih) {g:Operand} {ps:Array Tmp} {assign body:Code} {t:PT AV} {n:Nat} {d:List DE} {ro:Option Pos} {σ:aD} {e:Ex} {t':PT AV} {d':List DE} {σ':aD}
  (h:yC P G ih g ps assign body t n d ro σ= .ok e t' d' σ') {ρ:cz} {w:World} {a:Act} {rl:Option Nat} {m:Nat} {Q:Exit->Act->World->Prop} (hi:Inv ρ σ w) (hg:GR ρ G) (ht:TR ρ t n a.tmps) (hd:DR ρ d a.defers) (hr:RO ρ ro rl)
  (hQ:∀(ρ':cz) (w':World) (a':Act),Inv ρ' σ' w'->dZ ρ σ w ρ' σ' w'->TR ρ' t' n a'.tmps->DR ρ' d' a'.defers->Qx Q ρ' e a' w'):(Code.rangeFunc g ps assign body).wpIn (jq rl) m P Q a w:=by
 unfold yC at h;cases hm:yt ro d σ with
 | none=>rw[hm] at h;cases h
 | some q=>
 obtain⟨df,σ₁,d₁⟩:=q;rw[hm] at h;dsimp only at h;cases hv:bo G t g with
 | none=>rw[hv] at h;cases h
 | some fv=>
 rw[hv] at h;cases fv with
 | func f fi ca=>
  dsimp only at h;rw[a0] at h;split at h
  ·rename_i hgo;refine wpIn_rangeFunc fun fn _=>?_
   obtain⟨l,mark,w₁,ρ₁,g1,g2,g3,g4,g5⟩:=zN (P:=P) hm hi ht hd hr fn ps assign body;have hle:=g3.le hi;have hfv:=fY (a:=a) hg ht hv;simp only[VR] at hfv;obtain⟨fi',ca',hev,hfi,hca⟩:=hfv
   have hres:(resolve a.eval (rangeCall g l) 0).run P w₁= .ok {target:=.fn (.func f) ca',args:=fi'++ #[.func (.yield l) #[] #[]]} w₁:=by
    have hm1:(#[Operand.const (.func (.yield l) #[] #[])]).map a.eval= #[.func (.yield l) #[] #[]]:=by simp[Act.eval]
    simp only[resolve,rangeCall,hm1,hev,Deferred.ofValue,sP_]
   have hinv:(invoke (.fn (.func f) ca') (fi'++ #[.func (.yield l) #[] #[]])).run P w₁= .ok (.enter f (fi'++ #[.func (.yield l) #[] #[]]++ca')) w₁:=by
    simp only[invoke];exact qy hgo
   refine⟨l,mark,w₁,_,w₁,f,_,w₁,by rw[uD];exact g1,hres,fun f' _=>iy rl f',hinv,pb rl m,?_⟩;cases hc:kU P G ih f (fD fi (.yield σ₁.next::ca)) (σ₁.alloc (.loop .ready none t n ps.toList assign body df)) with
   | err k=>rw[hc] at h;cases h
   | iU v σ₃=>rw[hc] at h;cases h
   | ret v σ₃=>
   rw[hc] at h;dsimp only at h;refine qp hS hc g2 (hg.mono hle) ?_ rl _ fun ρ₃ w₃ x i₃ s₃ hx=>?_
   ·rw[dw];have:(fi'++ #[Value.func (.yield l) #[] #[]]++ca').toList=fi'.toList++(.func (.yield l) #[] #[]::ca'.toList):=by simp
    rw[this];refine cG.append (cG.mono hle _ _ hfi) (cG.cons ?_ (cG.mono hle _ _ hca));simp only[VR];exact⟨_,g4,rfl⟩
   have hl₃:=s₃.le g2 _ _ g4;have hle₃:ρ.le ρ₃:=fun b l hb=>s₃.le g2 _ _ (hle b l hb)
   unfold FE at h;cases hb:σ₃.m.get σ₁.next with
   | none=>rw[hb] at h;cases h
   | some ob=>
   rw[hb] at h;cases ob with
   | loop st p tmps n' ps' as bd df'=>
    dsimp only at h;obtain⟨y,hh,fn',tmps',l',rfl,hdf,htm⟩:=i₃.obj _ _ _ hb hl₃;have hnb:st≠ .busy:=fun ar=>by subst ar;cases h
    have h':(match p with
      | none=>CR.ok .normal t d₁ (σ₃.setObj σ₁.next (.loop .exhausted none tmps n' ps' as bd df'))
      | some c=>ih c t n d₁ ro (σ₃.setObj σ₁.next (.loop .exhausted (some c) tmps n' ps' as bd df')))= .ok e t' d' σ':=by
     cases st<;>first | exact absurd rfl hnb | exact h
    obtain⟨i₄,s₄⟩:=i₃.putObj (o':=.loop .exhausted p tmps n' ps' as bd df') hb hl₃ rfl rfl
     (x:=.loop {state:=.exhausted,pending:=p,fn:=fn',tmps:=tmps',params:=ps'.toArray,assign:=as,body:=bd,defers:=l'.cZ}) ⟨fn',tmps',l',rfl,hdf,htm⟩
    refine⟨p,_,run_endLoop hh hnb,?_⟩;have ar:=(g3.trans s₃).trans s₄;have hle₁₃:ρ₁.le ρ₃:=s₃.le g2;cases p with
    | none=>
     cases h';exact hQ ρ₃ _ {a with defers:=mark++a.defers} i₄ ar (ht.mono hle₃) (g5.mono hle₁₃) _ rfl
    | some c=>
     exact hS.run c t n d₁ ro _ e t' d' σ' h' ρ₃ _ {a with defers:=mark++a.defers} rl m Q i₄ (hg.mono hle₃) (ht.mono hle₃) (g5.mono hle₁₃) (hr.mono hle₃) fun ρ' w' a' i' s' t'' d''=>hQ ρ' w' a' i' (ar.trans s') t'' d''
   | _=>cases h
  cases h
 | _=>cases h
theorem Fc (hm:P.follows .mixedOrders=true) (hC:ze P G) (k:Nat):Sound P G (ec P G k):=by
 induction k using Nat.strongRecOn with
 | _ k ihk=>
  cases k with
  | zero=>exact⟨hC,fun c t n d ro σ e t' d' σ' h=>by cases h⟩
  | succ j=>
   have hS:=ihk j (Nat.lt_succ_self j);refine⟨hC,fun c t n d ro σ e t' d' σ' h ρ w a rl m Q hi hg ht hd hr hQ=>?_⟩;have h:DJ P G (ec P G j) c t n d ro σ= .ok e t' d' σ':=h;cases c with
   | skip=>cases h;exact wpIn_skip (hQ ρ w a hi (dZ.refl _ _ _) ht hd _ rfl)
   | label l=>cases h;exact wpIn_label (hQ ρ w a hi (dZ.refl _ _ _) ht hd _ rfl)
   | exit id=>cases h;exact wpIn_exit (hQ ρ w a hi (dZ.refl _ _ _) ht hd _ rfl)
   | ret=>cases h;exact wpIn_ret (hQ ρ w a hi (dZ.refl _ _ _) ht hd _ rfl)
   | region id ops draw=>
    cases draw with
    | false=>
     have h':(bif ml ops.toList then BN P G ops n ro d t σ else wu d (rE P G (ec P G j) ops n d ops.toList t σ))= .ok e t' d' σ':=h;refine wpIn_region ?_;rw[a0] at h';split at h'
     ·unfold BN at h';cases ro with
      | some _=>cases h'
      | none=>
       cases rl with
       | some _=>exact hr.elim
       | none=>
        have:=lq hS.cx.ov (m:=m) (Q:=Q) ops.toList 0 rfl d t σ ρ w a h' hi hg ht hd hQ;rw[List.range_eq_range'];simpa using this
     have:=sC hS rl (m:=m) (Q:=Q) ops.toList 0 rfl t σ ρ w a h' hi hg ht hd hQ;rw[List.range_eq_range'];simpa using this
    | true=>
     have h':s5 P G (ec P G j) ops n d t σ= .ok e t' d' σ':=h;exact wpIn_region_any hm (BP hS h' hi hg ht hd rl m hQ)
   | seq x y=>
    have h':wB (ec P G j x t n d ro σ) (fun t d σ=>ec P G j y t n d ro σ)= .ok e t' d' σ':=h;refine wpIn_seq ?_;cases hx:ec P G j x t n d ro σ with
    | err q=>rw[hx] at h';cases h'
    | ok e₁ t₁ d₁ σ₁=>
     rw[hx] at h'
     by_cases he:e₁= .normal
     ·subst he;refine hS.run x t n d ro σ _ t₁ d₁ σ₁ hx ρ w a rl m _ hi hg ht hd hr fun ρ₁ w₁ a₁ i₁ s₁ ht₁ hd₁ E hE=>?_
      have hE:E= .normal:=hE;subst hE;have hle:=s₁.le hi;exact hS.run y t₁ n d₁ ro σ₁ e t' d' σ' h' ρ₁ w₁ a₁ rl m Q i₁ (hg.mono hle) ht₁ hd₁ (hr.mono hle) fun ρ' w' a' i' s'=>hQ ρ' w' a' i' (s₁.trans s')
     have h'':CR.ok e₁ t₁ d₁ σ₁= .ok e t' d' σ':=by cases e₁<;>first | exact absurd rfl he | exact h'
     cases h'';exact hS.run x t n d ro σ _ _ _ _ hx ρ w a rl m _ hi hg ht hd hr fun ρ₁ w₁ a₁ i₁ s₁ ht₁ hd₁=>v8 he (hQ ρ₁ w₁ a₁ i₁ s₁ ht₁ hd₁)
   | cond x y z=>
    have h':wO (bo G t x) (ec P G j y t n d ro σ) (ec P G j z t n d ro σ)= .ok e t' d' σ':=h;unfold wO at h';split at h'
    ·rename_i hv;have:=fY (a:=a) hg ht hv;simp only[VR] at this;exact wpIn_cond_true this (hS.run y t n d ro σ e t' d' σ' h' ρ w a rl m Q hi hg ht hd hr hQ)
    ·rename_i hv;have:=fY (a:=a) hg ht hv;simp only[VR] at this;exact wpIn_cond_false this (hS.run z t n d ro σ e t' d' σ' h' ρ w a rl m Q hi hg ht hd hr hQ)
    cases h'
   | block id x=>
    have h':r8 id (ec P G j x t n d ro σ)= .ok e t' d' σ':=h;refine wpIn_block ?_;cases hx:ec P G j x t n d ro σ with
    | err q=>rw[hx] at h';cases h'
    | ok e₁ t₁ d₁ σ₁=>
     rw[hx] at h';refine hS.run x t n d ro σ e₁ t₁ d₁ σ₁ hx ρ w a rl m _ hi hg ht hd hr fun ρ₁ w₁ a₁ i₁ s₁ ht₁ hd₁ E hE=>?_
     cases e₁ with
     | exit q=>
      have hE:E= .exit q:=hE;subst hE;unfold r8 at h';dsimp only at h';rw[a0] at h';split at h'
      ·rename_i hq;cases h';have:=nB hq;subst this;simp only[Exit.inBlock,if_true];exact hQ ρ₁ w₁ a₁ i₁ s₁ ht₁ hd₁ _ rfl
      rename_i hq;cases h';have hne:¬q=id:=fun e=>hq (by rw[e];exact Nat.beq_refl id)
      simp only[Exit.inBlock,if_neg hne];exact hQ ρ₁ w₁ a₁ i₁ s₁ ht₁ hd₁ _ rfl
     | normal=>have hE:E= .normal:=hE;subst hE;cases h';exact hQ ρ₁ w₁ a₁ i₁ s₁ ht₁ hd₁ _ rfl
     | goto q=>have hE:E= .goto q:=hE;subst hE;cases h';exact hQ ρ₁ w₁ a₁ i₁ s₁ ht₁ hd₁ _ rfl
     | ret=>have hE:E= .ret:=hE;subst hE;cases h';exact hQ ρ₁ w₁ a₁ i₁ s₁ ht₁ hd₁ _ rfl
     | iU v=>cases h';have h2:=hQ ρ₁ w₁ a₁ i₁ s₁ ht₁ hd₁ E hE;obtain⟨y,rfl,_⟩:=hE;exact h2
   | scope x=>
    have h':Cz (ec P G j x t n d ro σ)= .ok e t' d' σ':=h;refine CS ?_;cases hx:ec P G j x t n d ro σ with
    | err q=>rw[hx] at h';cases h'
    | ok e₁ t₁ d₁ σ₁=>
     rw[hx] at h';refine hS.run x t n d ro σ e₁ t₁ d₁ σ₁ hx ρ w a rl m _ hi hg ht hd hr fun ρ₁ w₁ a₁ i₁ s₁ ht₁ hd₁ E hE=>?_
     cases e₁ with
     | goto q=>cases h'
     | normal=>have hE:E= .normal:=hE;subst hE;cases h';exact hQ ρ₁ w₁ a₁ i₁ s₁ ht₁ hd₁ _ rfl
     | exit q=>have hE:E= .exit q:=hE;subst hE;cases h';exact hQ ρ₁ w₁ a₁ i₁ s₁ ht₁ hd₁ _ rfl
     | ret=>have hE:E= .ret:=hE;subst hE;cases h';exact hQ ρ₁ w₁ a₁ i₁ s₁ ht₁ hd₁ _ rfl
     | iU v=>cases h';have h2:=hQ ρ₁ w₁ a₁ i₁ s₁ ht₁ hd₁ E hE;obtain⟨y,rfl,_⟩:=hE;exact h2
   | loop x=>
    refine wpIn_loop_ghost (fun i a₁ w₁=>i<=j+1/\∃t₁ d₁ σ₁ ρ₁,ec P G i (.loop x) t₁ n d₁ ro σ₁= .ok e t' d' σ'/\Inv ρ₁ σ₁ w₁/\dZ ρ σ w ρ₁ σ₁ w₁/\TR ρ₁ t₁ n a₁.tmps/\DR ρ₁ d₁ a₁.defers) (j+1)
     ⟨nR_ _,t,d,σ,ρ,h,hi,dZ.refl _ _ _,ht,hd⟩ fun i a₁ w₁ hI=>?_
    obtain⟨hij,t₁,d₁,σ₁,ρ₁,hrun,i₁,s₁,ht₁,hd₁⟩:=hI;have hle:=s₁.le hi;cases i with
    | zero=>cases hrun
    | succ i=>
     have hSi:=ihk i (by omega);have h':wB (ec P G i x t₁ n d₁ ro σ₁) (fun t d σ=>ec P G i (.loop x) t n d ro σ)= .ok e t' d' σ':=hrun;cases hx:ec P G i x t₁ n d₁ ro σ₁ with
     | err q=>rw[hx] at h';cases h'
     | ok e₂ t₂ d₂ σ₂=>
      rw[hx] at h'
      by_cases he:e₂= .normal
      ·subst he;refine hSi.run x t₁ n d₁ ro σ₁ _ t₂ d₂ σ₂ hx ρ₁ w₁ a₁ rl m _ i₁ (hg.mono hle) ht₁ hd₁ (hr.mono hle) fun ρ₂ w₂ a₂ i₂ s₂ ht₂ hd₂ E hE=>?_
       have hE:E= .normal:=hE;subst hE;exact⟨i,Nat.lt_succ_self i,by omega,t₂,d₂,σ₂,ρ₂,h',i₂,s₁.trans s₂,ht₂,hd₂⟩
      have h'':CR.ok e₂ t₂ d₂ σ₂= .ok e t' d' σ':=by cases e₂<;>first | exact absurd rfl he | exact h'
      cases h'';exact hSi.run x t₁ n d₁ ro σ₁ _ _ _ _ hx ρ₁ w₁ a₁ rl m _ i₁ (hg.mono hle) ht₁ hd₁ (hr.mono hle) fun ρ₂ w₂ a₂ i₂ s₂ ht₂ hd₂=>v8 he (hQ ρ₂ w₂ a₂ i₂ (s₁.trans s₂) ht₂ hd₂)
   | rangeFunc g ps assign body=>exact Av hS h hi hg ht hd hr hQ
   | _=>cases h
theorem oh (hm:P.follows .mixedOrders=true) (hC:ze P G) {fuel f:Nat} {args:List AV} {σ σ':aD} {v:AV} (h:uC P G fuel f args σ= .ret v σ') {ρ:cz} {w:World} {xs:Array Value} (hi:Inv ρ σ w) (hg:GR ρ G) (hx:cG ρ args xs.toList)
  {R:Ending->World->Prop} (hR:∀(ρ':cz) (w':World) (x:Value),Inv ρ' σ' w'->dZ ρ σ w ρ' σ' w'->VR ρ' v x->R (.returned x) w'):Calls P f xs w R:=
 callsIn_wide.1 (qp (Fc hm hC fuel) h hi hg hx none 0 hR)
def σ0:aD:=⟨0,.leaf⟩
end
end Go.Ev
namespace Go.Ev
variable [Env]
open Go.ChangeShapes Go.WideShapes Go.ChangeAt Go.RowKit
theorem js.kept {w w':World} (h:js w w') (may:MemPlace->Prop):w.keptBut w' may:=by
 refine⟨h.os,h.out,fun i hi=>?_⟩;rw[h.same i hi];cases w.heap[i]? with
 | none=>rfl
 | some o=>cases o<;>first | exact⟨rfl,rfl,rfl,fun _ _=>rfl⟩ | exact .inr ⟨rfl,rfl⟩ | rfl
theorem js.frozen {w w':World} (h:js w w') (a:Addr) (ha:a.block<w.heap.size):w'.frozen? a=w.frozen? a:=by
 unfold World.frozen?;rw[h.same a.block ha]
theorem Cs {H:Type} {enc:TypeId×Value->H} {P:Program} {f:Func} {s:ChangeSpec} {apart fresh handsOn again:Bool} {W W':World} {args:Array Value} {v:Value} {ds gs:List (DataW H)} {before pa pv:List MemPlace}
  (hW:DataW.Whole enc P f.params.toList s.vars apart W args.toList ds gs before)
  (hres:∀(b:Nat) (sp:Nat->Bool) (hd:Bool),DataW.TrodAll enc P W' b sp hd f.resultTypes.toList (v.resultList f.resultTypes.size) (s.fn H (ds++gs)).results [])
  (hargs:∀sp:Nat->Bool,(∀p∈before,sp p.block=true)->DataW.TrodAll enc P W' 0 sp true f.params.toList args.toList (s.fn H (ds++gs)).args pa)
  (hvars:∀sp:Nat->Bool,(∀p∈before,sp p.block=true)->DataW.TrodVars enc P W' sp s.vars (s.fn H (ds++gs)).vars pv)
  (hps:before=pa++pv) (hk:js W W')
  (hok:∀(j:Nat) (t:TypeId) (r:Value),f.resultTypes[j]?=some t->(v.resultList f.resultTypes.size)[j]?=some r->Value.okWide P W' .any 0 t r):
  s.post enc P f apart fresh handsOn again W args v W':=by
 have hold:∀p∈before,(fun b=>decide (b<W.heap.size)) p.block=true:=fun p hp=>by simpa using hW.lt p hp
 refine⟨ds,gs,before,[],pa,pv,hW,hres _ _ _,hargs _ hold,hvars _ hold,hk.kept _,fun _=>?_⟩;have hlt:=hW.lt;obtain⟨_,_,_,_,_,hz,hn⟩:=hW;refine⟨hok,_,_,([]++pa)++pv,⟨[]++pa,pv,trodAll_append (hargs _ (fun _ _=>rfl)) (hres _ _ _),hvars _ (fun _ _=>rfl),rfl,?_,?_⟩,?_⟩
 ·intro b off hp;have hp':MemPlace.cell b off∈before:=by rw[hps];simpa using hp
  rw[hk.frozen _ (hlt _ hp')];exact hz b off hp'
 ·intro ha;have:=hn ha;rw[hps] at this;simpa using this
 intro p hp _;rw[hps];simpa using hp
end Go.Ev
namespace Go.Ev
variable [Env]
structure IK where
 k:IntKind
 n:Int
structure PO where
 b:Pos
 off:Nat
structure SL where
 b:Pos
 off:Nat
 len:Nat
def KS:AV->Option IK
 | .int k n=>some ⟨k,n⟩
 | _=>none
def LW:AV->Option PO
 | .ptr b off=>some ⟨b,off⟩
 | _=>none
def MG:AV->Option SL
 | .slice b off len _=>some ⟨b,off,len⟩
 | _=>none
def MF:AV->Option Nat
 | .int _ (.ofNat i)=>some i
 | _=>none
def MD:AV->Option Bool
 | .bool b=>some b
 | _=>none
def MH:AV->Option (List AV)
 | .tuple l=>some l
 | _=>none
def rowOf:bQ->Option (List AV)
 | .row cells _ _=>some cells
 | .own cells _=>some cells
 | _=>none
theorem zn {v:AV} {i:IK} (h:KS v=some i):v= .int i.k i.n:=by
 unfold KS at h;split at h
 ·cases h;rfl
 cases h
def nR (σ:aD) (e:Nat) (v:Option AV):HR:=Option.rec (motive:=fun _=>HR) (.err e) (fun v=>.val v σ) v
theorem lZ (σ:aD) (e:Nat) (v:Option AV):nR σ e v=match v with | some v=>.val v σ | none=>.err e:=by cases v<;>rfl
structure Mn where
 run:PT AV->Option AV
def mU (G:Cx) (x:Operand):Mn:=
 match x with
 | .tmp k=>bif Nat.ble k 255 then⟨fun t=>jr t.s k⟩ else⟨fun t=>t.get k⟩
 | .const v=>⟨fun _=>ow v⟩
 | .global g=>⟨fun _=>bif Nat.ble (Nat.succ g) G.gl then some (.ptr (posOf g) 0) else none⟩
 | .func f=>⟨fun _=>some (.func f [] [])⟩
theorem iC (G:Cx) (x:Operand) (t:PT AV):(mU G x).run t=bo G t x:=by
 cases x with
 | tmp k=>
  show(bif Nat.ble k 255 then(⟨fun t=>jr t.s k⟩:Mn) else⟨fun t=>t.get k⟩).run t=t.get k;cases h:Nat.ble k 255 with
  | true=>exact(PT.pX t ((nb k 255).1 h)).symm
  | false=>rfl
 | _=>rfl
structure Mm where
 run:AV->AV->Option AV
def Gv (P:Program) (q:Bool) (o:BinOp) (ty:TypeId) (f:IntKind->Int->Int->AV) (a b:AV):Option AV:=
 Option.rec (motive:=fun _=>Option AV) (tB P q o ty a b) (fun i=>Option.rec (motive:=fun _=>Option AV) (tB P q o ty a b) (fun j=>bif q7 i.k j.k then some (f i.k i.n j.n) else none) (KS b)) (KS a)
theorem Kf {P:Program} {q:Bool} {o:BinOp} {ty:TypeId} {f:IntKind->Int->Int->AV} (h:∀k x k' y,tB P q o ty (.int k x) (.int k' y)=bif q7 k k' then some (f k x y) else none) (a b:AV):Gv P q o ty f a b=tB P q o ty a b:=by
 unfold Gv;cases ha:KS a with
 | none=>rfl
 | some i=>
  cases hb:KS b with
  | none=>rfl
  | some j=>
   rw[zn ha,zn hb,h]
def MP (_:IntKind) (x y:Int):AV:=.bool (bG x y)
def MN (_:IntKind) (x y:Int):AV:=.bool (bG y x)
def MO (_:IntKind) (x y:Int):AV:=.bool (bif bG y x then false else true)
def MM (_:IntKind) (x y:Int):AV:=.bool (bif bG x y then false else true)
def ML (_:IntKind) (x y:Int):AV:=.bool (bq x y)
def MS (_:IntKind) (x y:Int):AV:=.bool (bif bq x y then false else true)
def LU (k:IntKind) (x y:Int):AV:=.int k (wr k (Int.add x y))
def Mi (k:IntKind) (x y:Int):AV:=.int k (wr k (Int.sub x y))
def L8 (k:IntKind) (x y:Int):AV:=.int k (wr k (Int.mul x y))
def K8 (P:Program) (q:Bool) (o:BinOp) (ty:TypeId):Mm:=
 match o with
 | .lss=>⟨Gv P q .lss ty MP⟩
 | .gtr=>⟨Gv P q .gtr ty MN⟩
 | .leq=>⟨Gv P q .leq ty MO⟩
 | .geq=>⟨Gv P q .geq ty MM⟩
 | .eql=>⟨Gv P q .eql ty ML⟩
 | .neq=>⟨Gv P q .neq ty MS⟩
 | .add=>⟨Gv P q .add ty LU⟩
 | .sub=>⟨Gv P q .sub ty Mi⟩
 | .mul=>⟨Gv P q .mul ty L8⟩
 | o=>⟨fun a b=>tB P q o ty a b⟩
theorem JN (P:Program) (q:Bool) (o:BinOp) (ty:TypeId) (a b:AV):(K8 P q o ty).run a b=tB P q o ty a b:=by
 cases o<;>first | rfl | exact Kf (fun _ _ _ _=>rfl) a b
def K0 (c:Mm) (x y:Option AV):Option AV:=
 Option.rec (motive:=fun _=>Option AV) none (fun a=>Option.rec (motive:=fun _=>Option AV) none (fun b=>c.run a b) y) x
def Dx (c a b:Option AV):Option AV:=
 Option.rec (motive:=fun _=>Option AV) none (fun c=>Option.rec (motive:=fun _=>Option AV) none (fun c=>bif c then a else b) (MD c)) c
def Lf (i:Nat) (x:Option AV):Option AV:=
 Option.rec (motive:=fun _=>Option AV) none (fun x=>Option.rec (motive:=fun _=>Option AV) none (fun l=>nth l i) (MH x)) x
def L7 (ag:Option (Option Nat)) (cells:List AV) (off:Nat):Option AV:=
 Option.rec (motive:=fun _=>Option AV) none (fun o=>Option.rec (motive:=fun _=>Option AV) (nth cells off) (fun n=>bif Nat.ble (Nat.add off n) (cD cells) then some (.agg (takeN (dy cells off) n)) else none) o) ag
def Af (ag:Option (Option Nat)) (σ:aD) (x:Option AV):Option AV:=
 Option.rec (motive:=fun _=>Option AV) none (fun v=>Option.rec (motive:=fun _=>Option AV) none (fun p=>Option.rec (motive:=fun _=>Option AV) none
  (fun o=>Option.rec (motive:=fun _=>Option AV) none (fun cells=>L7 ag cells p.off) (rowOf o)) (σ.m.get p.b)) (LW v)) x
def oj (P:Program) (s:TypeId) (i:Nat):Option Nat:=
 match structOf P s with
 | some fs=>match fs[i]? with
  | some f=>match tc P f.type with
   | some j=>bif Nat.beq j.size 0 then none else some f.offset
   | none=>none
  | none=>none
 | none=>none
def LJ (k:Option Nat) (x:Option AV):Option AV:=
 Option.rec (motive:=fun _=>Option AV) none (fun k=>Option.rec (motive:=fun _=>Option AV) none (fun v=>Option.rec (motive:=fun _=>Option AV) none (fun p=>some (.ptr p.b (Nat.add p.off k))) (LW v)) x) k
structure IA where
 n:Option Nat
 sz:Nat
def uS (P:Program) (t:TypeId):Option IA:=
 match nF P t with
 | some (.slice e)=>match tc P e with | some j=>some ⟨none,j.size⟩ | none=>none
 | some (.array n e)=>match tc P e with | some j=>some ⟨some n,j.size⟩ | none=>none
 | _=>none
def L6 (q:IA) (v:AV) (i:Nat):Option AV:=
 Option.rec (motive:=fun _=>Option AV)
  (Option.rec (motive:=fun _=>Option AV) none (fun s=>bif Nat.ble (Nat.succ i) s.len then some (.ptr s.b (Nat.add s.off (Nat.mul i q.sz))) else none) (MG v))
  (fun n=>Option.rec (motive:=fun _=>Option AV) none (fun p=>bif Nat.ble (Nat.succ i) n then some (.ptr p.b (Nat.add p.off (Nat.mul i q.sz))) else none) (LW v)) q.n
def LK (q:Option IA) (x i:Option AV):Option AV:=
 Option.rec (motive:=fun _=>Option AV) none (fun q=>Option.rec (motive:=fun _=>Option AV) none (fun v=>Option.rec (motive:=fun _=>Option AV) none
  (fun w=>Option.rec (motive:=fun _=>Option AV) none (fun i=>L6 q v i) (MF w)) i) x) q
structure LQ where
 run:PT AV->aD->HR
def zB (P:Program) (G:Cx) (σ:aD) (f:Option AV) (args:Option (List AV)):HR:=
 Option.rec (motive:=fun _=>HR) (.err 12) (fun g=>Option.rec (motive:=fun _=>HR) (.err 12) (fun args=>zx P G.ov σ g args) args) f
def Ey (G:Cx) (l:List Operand) (t:PT AV):Option (List AV):=cF (fun x=>(mU G x).run t) l
def IP (P:Program) (G:Cx) (op:Op):LQ:=
 match op with
 | .move x=>⟨fun t σ=>nR σ 1001 ((mU G x).run t)⟩
 | .assign x=>⟨fun t σ=>nR σ 1002 ((mU G x).run t)⟩
 | .pick c a b=>⟨fun t σ=>nR σ 1003 (Dx ((mU G c).run t) ((mU G a).run t) ((mU G b).run t))⟩
 | .binOp o ty x y _=>⟨fun t σ=>nR σ 1014 (K0 (K8 P (xe x || xe y) o ty) ((mU G x).run t) ((mU G y).run t))⟩
 | .extract x i=>⟨fun t σ=>nR σ 1036 (Lf i ((mU G x).run t))⟩
 | .load ty x=>⟨fun t σ=>nR σ 2009 (Af (dE P ty) σ ((mU G x).run t))⟩
 | .fieldAddr s x i=>⟨fun t σ=>nR σ 1024 (LJ (oj P s i) ((mU G x).run t))⟩
 | .indexAddr ty x i=>⟨fun t σ=>nR σ 1026 (LK (uS P ty) ((mU G x).run t) ((mU G i).run t))⟩
 | .call c=>match c.callee with
  | .value f=>⟨fun t σ=>zB P G σ ((mU G f).run t) (Ey G c.args.toList t)⟩
  | _=>⟨fun t σ=>dJ P G (bo G t) σ (.call c)⟩
 | op=>⟨fun t σ=>dJ P G (bo G t) σ op⟩
theorem GZ (P:Program) (G:Cx) (op:Op) (t:PT AV) (σ:aD):(IP P G op).run t σ=dJ P G (bo G t) σ op:=by
 cases op with
 | move x=>show nR σ 1001 ((mU G x).run t)=_;rw[iC,lZ];rfl
 | assign x=>show nR σ 1002 ((mU G x).run t)=_;rw[iC,lZ];rfl
 | pick c a b=>
  show nR σ 1003 (Dx ((mU G c).run t) ((mU G a).run t) ((mU G b).run t))=_;rw[iC,iC,iC,lZ]
  have:Dx (bo G t c) (bo G t a) (bo G t b)=dg P (bo G t) (.pick c a b):=by
   simp only[dg,Dx];cases bo G t c with
   | none=>rfl
   | some v=>cases v<;>first | rfl | (rename_i b;cases b<;>rfl)
  rw[this];rfl
 | binOp o ty x y r=>
  show nR σ 1014 (K0 (K8 P (xe x || xe y) o ty) ((mU G x).run t) ((mU G y).run t))=_;rw[iC,iC,lZ]
  have:K0 (K8 P (xe x || xe y) o ty) (bo G t x) (bo G t y)=dg P (bo G t) (.binOp o ty x y r):=by
   simp only[dg,K0];cases bo G t x with
   | none=>rfl
   | some v=>
    cases bo G t y with
    | none=>rfl
    | some u=>exact JN P _ o ty v u
  rw[this];rfl
 | extract x i=>
  show nR σ 1036 (Lf i ((mU G x).run t))=_;rw[iC,lZ]
  have:Lf i (bo G t x)=dg P (bo G t) (.extract x i):=by
   simp only[dg,Lf];cases bo G t x with
   | none=>rfl
   | some v=>cases v<;>rfl
  rw[this];rfl
 | load ty x=>
  show nR σ 2009 (Af (dE P ty) σ ((mU G x).run t))=_;rw[iC,lZ]
  have:Af (dE P ty) σ (bo G t x)=fV P (bo G t) σ (.load ty x):=by
   simp only[fV,Af];cases bo G t x with
   | none=>rfl
   | some v=>
    cases v<;>first | rfl | skip
    rename_i b off;show Option.rec (motive:=fun _=>Option AV) none _ (σ.m.get b)=_;cases hb:σ.m.get b with
    | none=>dsimp only;rw[hb]
    | some o=>
     dsimp only;rw[hb];cases o<;>first | rfl | skip
     all_goals
      show L7 (dE P ty) _ off=_;unfold L7;cases dE P ty with
      | none=>rfl
      | some q=>cases q<;>rfl
  rw[this];rfl
 | fieldAddr s x i=>
  show nR σ 1024 (LJ (oj P s i) ((mU G x).run t))=_;rw[iC,lZ]
  have:LJ (oj P s i) (bo G t x)=dg P (bo G t) (.fieldAddr s x i):=by
   simp only[dg,oj,oo];cases structOf P s with
   | none=>rfl
   | some fs=>
    dsimp only;cases hx:bo G t x with
    | none=>
     cases fs[i]? with
     | none=>rfl
     | some f=>dsimp only;cases P.info? f.type with
      | none=>rfl
      | some j=>dsimp only;cases Nat.beq j.size 0<;>rfl
    | some v=>
     cases hf:fs[i]? with
     | none=>cases v<;>first | rfl | (simp only[hf];rfl)
     | some f=>
      dsimp only;cases hj:P.info? f.type with
      | none=>cases v<;>first | rfl | (simp only[hf,hj];rfl)
      | some j=>
       dsimp only;cases hz:Nat.beq j.size 0<;>(cases v<;>first | rfl | (simp only[hf,hj,hz];rfl))
  rw[this];rfl
 | indexAddr ty x i=>
  show nR σ 1026 (LK (uS P ty) ((mU G x).run t) ((mU G i).run t))=_;rw[iC,iC,lZ]
  have:LK (uS P ty) (bo G t x) (bo G t i)=dg P (bo G t) (.indexAddr ty x i):=by
   simp only[dg,uS,oo,m6];cases hu:P.underlying ty with
   | none=>rfl
   | some d=>
    cases d<;>first | rfl | skip
    all_goals
     dsimp only;rename_i e;cases hj:P.info? e with
     | none=>
      cases bo G t x with
      | none=>rfl
      | some v=>cases v<;>first | rfl | (cases bo G t i with
       | none=>rfl
       | some u=>cases u<;>first | rfl | (rename_i k n;cases n<;>first | rfl | (simp only[hj];rfl)))
     | some j=>
      cases bo G t x with
      | none=>rfl
      | some v=>cases v<;>first | (cases bo G t i with
       | none=>rfl
       | some u=>cases u<;>first | rfl | (rename_i k n;cases n<;>first | rfl | (simp only[hj];rfl)))
  rw[this];rfl
 | call c=>
  cases hc:c.callee with
  | value f=>
   have h1:(IP P G (.call c)).run t σ=zB P G σ ((mU G f).run t) (Ey G c.args.toList t):=by
    show(match c.callee with
     | .value f=>(⟨fun t σ=>zB P G σ ((mU G f).run t) (Ey G c.args.toList t)⟩:LQ)
     | _=>⟨fun t σ=>dJ P G (bo G t) σ (.call c)⟩).run t σ=_
    rw[hc]
   have h2:dJ P G (bo G t) σ (.call c)=gQ P G.ov (bo G t) σ (.call c):=by
    unfold dJ;have:kindOf P (.call c)= .ja:=by simp only[kindOf,hc]
    rw[this]
   have h3:Ey G c.args.toList t=wW (bo G t) c.args.toList:=by
    unfold Ey wW;congr 1;funext x;exact iC G x t
   rw[h1,h2,iC,h3];simp only[gQ,hc,zB];cases bo G t f with
   | none=>rfl
   | some g=>cases wW (bo G t) c.args.toList<;>rfl
  | _=>
   show(match c.callee with
     | .value f=>(⟨fun t σ=>zB P G σ ((mU G f).run t) (Ey G c.args.toList t)⟩:LQ)
     | _=>⟨fun t σ=>dJ P G (bo G t) σ (.call c)⟩).run t σ=_
   rw[hc]
 | _=>rfl
structure KX where
 run:PT AV->AV->Nat->(PT AV->CR)->CR
structure MB where
 run:AV->PT AV->PT AV
def Fv (j:Nat):MB:=
 bif Nat.ble j 255 then⟨fun v t=>PT.rec (motive:=fun _=>PT AV) (fun s m l=>⟨(wb (Nat.div j 16)).run s ((wb (Nat.mod j 16)).run ((jl (Nat.div j 16)).run s) (some v)),m,l⟩) t⟩
 else⟨fun v t=>t.put (some v) j⟩
theorem Kv (j:Nat) (v:AV) (t:PT AV):(Fv j).run v t=t.put (some v) j:=by
 unfold Fv;cases h:Nat.ble j 255 with
 | true=>
  cases t with
  | mk s m l=>exact(PT.tq (some v) s m l ((nb j 255).1 h)).symm
 | false=>rfl
def Kw (j:Nat) (v:AV) (t:PT AV):PT AV:=(Fv j).run v t
theorem IW (j:Nat) (v:AV) (t:PT AV):Kw j v t=t.put (some v) j:=Kv j v t
def wz (n:Nat) (dst:Option Nat):KX:=
 match dst with
 | none=>⟨fun t _ _ k=>k t⟩
 | some j=>bif Nat.ble (Nat.succ j) n then⟨fun t v _ k=>k (Kw j v t)⟩ else⟨fun _ _ e _=>.err e⟩
theorem vz (n:Nat) (dst:Option Nat) (t:PT AV) (v:AV) (e:Nat) (k:PT AV->CR):(wz n dst).run t v e k=match cO t n dst v with | some t'=>k t' | none=>.err e:=by
 cases dst with
 | none=>rfl
 | some j=>
  show(bif Nat.ble (Nat.succ j) n then(⟨fun t v _ k=>k (Kw j v t)⟩:KX) else⟨fun _ _ e _=>.err e⟩).run t v e k=_;show _=match(bif Nat.ble (Nat.succ j) n then some (t.put (some v) j) else none) with | some t'=>k t' | none=>.err e
  rw[<-IW];cases Nat.ble (Nat.succ j) n<;>rfl
structure My where
 run:iE->List AV->aD->KR
def Mf (P:Program) (G:Cx) (ih:iE) (fn:Func) (r:CR):KR:=
 match r with
 | .ok .normal t d σ=>ya P G ih fn .ret t d σ
 | .ok .ret t d σ=>ya P G ih fn .ret t d σ
 | .ok (.iU v) t d σ=>ya P G ih fn (.iU v) t d σ
 | .err k=>.err k
 | _=>.err 72
def J8 (P:Program) (G:Cx) (fn:Func) (c:Code) (ih:iE) (args:List AV) (σ:aD):KR:=
 Option.rec (motive:=fun _=>KR) (.err 73) (fun t=>Mf P G ih fn (ih c t fn.ntmps [] none σ)) (pN fn.ntmps args)
def L5 (P:Program) (G:Cx) (f:Nat):My:=
 match nth P.funcs.toList f with
 | some fn=>match fn.body with
  | some c=>⟨J8 P G fn c⟩
  | none=>⟨fun _ _ _=>.err 73⟩
 | none=>⟨fun _ _ _=>.err 74⟩
theorem J7 (P:Program) (G:Cx) (f:Nat) (ih:iE) (args:List AV) (σ:aD):(L5 P G f).run ih args σ=mH P G ih f args σ:=by
 unfold L5 mH;rw[fC,aT_];cases P.funcs[f]? with
 | none=>rfl
 | some fn=>
  dsimp only;cases hb:fn.body with
  | none=>rfl
  | some c=>
   dsimp only;show J8 P G fn c ih args σ=_;unfold J8;cases pN fn.ntmps args with
   | none=>rfl
   | some t=>rfl
def zy (P:Program) (G:Cx) (ih:iE) (f:Nat) (args:List AV) (σ:aD):KR:=
 Option.rec (motive:=fun _=>KR) (Option.rec (motive:=fun _=>KR) (Option.rec (motive:=fun _=>KR) (Option.rec (motive:=fun _=>KR) (bif G.fk f then sB (Gl P G ih f args σ) else(L5 P G f).run ih args σ) (fun c=>.err c) (G.stop f args σ)) (fun e=>.ret e.v (Ac σ e)) (w0 G.gl G.laid G.mem f args σ)) (fun v=>bif ep args && (mM v && jE G.gl σ G.laid) then .ret v σ else .err 79) (G.Hq f args)) (fun v=>bif mM v then .ret v σ else .err 78) (G.Gz f args σ)
theorem zA (P:Program) (G:Cx) (ih:iE) (f:Nat) (args:List AV) (σ:aD):zy P G ih f args σ=kU P G ih f args σ:=by
 unfold zy kU;rw[J7];cases G.Gz f args σ with
 | some v=>rfl
 | none=>
 dsimp only;cases G.Hq f args with
 | some v=>rfl
 | none=>
  dsimp only;cases w0 G.gl G.laid G.mem f args σ with
  | some e=>rfl
  | none=>
   dsimp only;cases G.stop f args σ<;>rfl
structure HU where
 run:iE->PT AV->aD->(PT AV->aD->CR)->CR
def HM (k:PT AV->aD->CR) (σ:aD) (t:PT AV):CR:=k t σ
def LN (pn:Bool) (c:KX) (t:PT AV) (k:PT AV->aD->CR) (r:KR):CR:=
 KR.rec (motive:=fun _=>CR) (fun v σ=>c.run t v 80 (HM k σ)) (fun v σ=>IS pn v t σ) (fun e=>.err e) r
def ID (P:Program) (G:Cx) (ih:iE) (pn:Bool) (c:KX) (t:PT AV) (k:PT AV->aD->CR) (r:HR):CR:=
 HR.rec (motive:=fun _=>CR) (fun v σ=>c.run t v 80 (HM k σ)) (fun σ=>c.run t unit 80 (HM k σ)) (fun f args σ=>LN pn c t k (zy P G ih f args σ)) (fun l args σ=>LN pn c t k (nz ih l args σ)) (fun v σ=>IS pn v t σ) (fun e=>.err e) r
def Hz (ops:Array Oper) (o:Oper) (c:KX) (t:PT AV) (σ:aD) (k:PT AV->aD->CR) (go:CR) (w:Option Bool):CR:=
 Option.rec (motive:=fun _=>CR) (.err 85) (fun b=>bif b then go else c.run t unit 84 (HM k σ)) w
def Mh (P:Program) (G:Cx) (j:Nat) (op:Op):Option HU:=
 match op with
 | .move x=>some ⟨fun _ t σ k=>Option.rec (motive:=fun _=>CR) (.err 1001) (fun v=>k ((Fv j).run v t) σ) ((mU G x).run t)⟩
 | .assign x=>some ⟨fun _ t σ k=>Option.rec (motive:=fun _=>CR) (.err 1002) (fun v=>k ((Fv j).run v t) σ) ((mU G x).run t)⟩
 | .binOp o ty x y _=>some ⟨fun _ t σ k=>Option.rec (motive:=fun _=>CR) (.err 1014) (fun v=>k ((Fv j).run v t) σ) (K0 (K8 P (xe x || xe y) o ty) ((mU G x).run t) ((mU G y).run t))⟩
 | .extract x i=>some ⟨fun _ t σ k=>Option.rec (motive:=fun _=>CR) (.err 1036) (fun v=>k ((Fv j).run v t) σ) (Lf i ((mU G x).run t))⟩
 | .load ty x=>some ⟨fun _ t σ k=>Option.rec (motive:=fun _=>CR) (.err 2009) (fun v=>k ((Fv j).run v t) σ) (Af (dE P ty) σ ((mU G x).run t))⟩
 | .fieldAddr s x i=>some ⟨fun _ t σ k=>Option.rec (motive:=fun _=>CR) (.err 1024) (fun v=>k ((Fv j).run v t) σ) (LJ (oj P s i) ((mU G x).run t))⟩
 | .indexAddr ty x i=>some ⟨fun _ t σ k=>Option.rec (motive:=fun _=>CR) (.err 1026) (fun v=>k ((Fv j).run v t) σ) (LK (uS P ty) ((mU G x).run t) ((mU G i).run t))⟩
 | _=>none
theorem KC {P:Program} {G:Cx} {pn:Bool} {n j:Nat} (hj:Nat.ble (Nat.succ j) n=true) {op:Op} {c:HU} (h:Mh P G j op=some c) (ih:iE) (t:PT AV) (σ:aD) (k:PT AV->aD->CR):
  c.run ih t σ k=ID P G ih pn (wz n (some j)) t k ((IP P G op).run t σ):=by
 have key:∀(e:Nat) (x:Option AV),Option.rec (motive:=fun _=>CR) (.err e) (fun v=>k ((Fv j).run v t) σ) x=ID P G ih pn (wz n (some j)) t k (nR σ e x):=by
  intro e x;cases x with
  | none=>rfl
  | some v=>
   show k ((Fv j).run v t) σ=(wz n (some j)).run t v 80 (HM k σ);unfold wz;dsimp only;rw[hj];rfl
 cases op<;>first | (cases h;done) | (cases h;exact key _ _)
def LO (P:Program) (G:Cx) (pn:Bool) (n:Nat) (o:Oper):HU:=
 match o.dst with
 | some j=>bif Nat.ble (Nat.succ j) n then(match Mh P G j o.op with | some c=>c | none=>⟨fun ih t σ k=>ID P G ih pn (wz n (some j)) t k ((IP P G o.op).run t σ)⟩) else⟨fun ih t σ k=>ID P G ih pn (wz n (some j)) t k ((IP P G o.op).run t σ)⟩
 | none=>⟨fun ih t σ k=>ID P G ih pn (wz n none) t k ((IP P G o.op).run t σ)⟩
theorem KB (P:Program) (G:Cx) (pn:Bool) (n:Nat) (o:Oper) (ih:iE) (t:PT AV) (σ:aD) (k:PT AV->aD->CR):(LO P G pn n o).run ih t σ k=ID P G ih pn (wz n o.dst) t k ((IP P G o.op).run t σ):=by
 unfold LO;cases hd:o.dst with
 | none=>rfl
 | some j=>
  dsimp only;cases hj:Nat.ble (Nat.succ j) n with
  | false=>rfl
  | true=>
   simp only[cond_true];cases hv:Mh P G j o.op with
   | none=>rfl
   | some c=>exact KC hj hv ih t σ k
def HQ (P:Program) (G:Cx) (pn:Bool) (ops:Array Oper) (n:Nat) (o:Oper):HU:=
 match o.guard with
 | none=>LO P G pn n o
 | some _=>⟨fun ih t σ k=>Hz ops o (wz n o.dst) t σ k (ID P G ih pn (wz n o.dst) t k ((IP P G o.op).run t σ)) (bu ops t o)⟩
theorem Gu (P:Program) (G:Cx) (ih:iE) (pn:Bool) (n:Nat) (dst:Option Nat) (t:PT AV) (k:PT AV->aD->CR) (r:HR):
  ID P G ih pn (wz n dst) t k r=match kA P G ih r with | .ret v σ'=>(match cO t n dst v with | some t'=>k t' σ' | none=>.err 80) | .iU v σ'=>IS pn v t σ' | .err e=>.err e:=by
 cases r with
 | val v σ=>show(wz n dst).run t v 80 (HM k σ)=_;rw[vz];rfl
 | skip σ=>show(wz n dst).run t unit 80 (HM k σ)=_;rw[vz];rfl
 | enter f args σ=>
  show LN pn (wz n dst) t k (zy P G ih f args σ)=_;rw[zA];show _=match kU P G ih f args σ with | .ret v σ'=>_ | .iU v σ'=>_ | .err e=>_
  cases kU P G ih f args σ with
  | ret v σ'=>show(wz n dst).run t v 80 (HM k σ')=_;rw[vz];rfl
  | iU v σ'=>rfl
  | err e=>rfl
 | round l args σ=>
  show LN pn (wz n dst) t k (nz ih l args σ)=_;show _=match nz ih l args σ with | .ret v σ'=>_ | .iU v σ'=>_ | .err e=>_
  cases nz ih l args σ with
  | ret v σ'=>show(wz n dst).run t v 80 (HM k σ')=_;rw[vz];rfl
  | iU v σ'=>rfl
  | err e=>rfl
 | iU v σ=>rfl
 | err e=>rfl
theorem CD (P:Program) (G:Cx) (pn:Bool) (ops:Array Oper) (n:Nat) (o:Oper) (ih:iE) (t:PT AV) (σ:aD) (k:PT AV->aD->CR):(HQ P G pn ops n o).run ih t σ k=iw P G ih pn ops n o t σ k:=by
 unfold HQ iw;cases hg:o.guard with
 | none=>
  have:bu ops t o=some true:=by unfold bu;rw[hg]
  rw[this];show(LO P G pn n o).run ih t σ k=_;rw[KB,Gu,GZ]
  all_goals rfl
 | some jw=>
  show Hz ops o (wz n o.dst) t σ k (ID P G ih pn (wz n o.dst) t k ((IP P G o.op).run t σ)) (bu ops t o)=_;rw[Gu,GZ];unfold Hz;cases bu ops t o with
  | none=>rfl
  | some b=>
   cases b with
   | true=>rfl
   | false=>show(wz n o.dst).run t unit 84 (HM k σ)=_;rw[vz];rfl
def Hd (P:Program) (G:Cx) (ops:Array Oper) (n:Nat) (l:List Oper):HU:=
 List.rec (motive:=fun _=>HU) ⟨fun _ t σ k=>k t σ⟩ (fun o _ c=>⟨fun ih t σ k=>(HQ P G true ops n o).run ih t σ (fun t σ=>c.run ih t σ k)⟩) l
def ux (d:List DE) (t:PT AV) (σ:aD):CR:=.ok .normal t d σ
theorem DB (P:Program) (G:Cx) (ops:Array Oper) (n:Nat) (ih:iE) (d:List DE):∀(l:List Oper) (t:PT AV) (σ:aD),(Hd P G ops n l).run ih t σ (ux d)=rE P G ih ops n d l t σ
 | [],t,σ=>rfl
 | o::l,t,σ=>by
  show(HQ P G true ops n o).run ih t σ (fun t σ=>(Hd P G ops n l).run ih t σ (ux d))=iw P G ih true ops n o t σ (rE P G ih ops n d l);rw[CD];congr 1;funext t' σ';exact DB P G ops n ih d l t' σ'
def xP (P:Program) (G:Cx) (ops:Array Oper) (rc:List Nat) (k:PT AV->aD->CR) (t:PT AV) (σ:aD):CR:=bif cM P G ops t σ rc then k t σ else .err 86
def vw (P:Program) (G:Cx) (ops:Array Oper) (n:Nat) (l:List (Nat×List Nat)):HU:=
 List.rec (motive:=fun _=>HU) ⟨fun _ t σ k=>k t σ⟩ (fun p _ c=>match nth ops.toList p.1 with
  | some o=>(match p.2 with
   | []=>⟨fun ih t σ k=>(HQ P G false ops n o).run ih t σ (fun t σ=>c.run ih t σ k)⟩
   | rc=>⟨fun ih t σ k=>(HQ P G false ops n o).run ih t σ (xP P G ops rc (fun t σ=>c.run ih t σ k))⟩)
  | none=>⟨fun _ _ _ _=>.err 87⟩) l
theorem vx (P:Program) (G:Cx) (ops:Array Oper) (n:Nat) (ih:iE) (d:List DE):∀(l:List (Nat×List Nat)) (t:PT AV) (σ:aD),(vw P G ops n l).run ih t σ (ux d)=jh P G ih ops n d l t σ
 | [],t,σ=>rfl
 | (i,rc)::l,t,σ=>by
  show(match nth ops.toList i with
   | some o=>(match rc with
    | []=>(⟨fun ih t σ k=>(HQ P G false ops n o).run ih t σ (fun t σ=>(vw P G ops n l).run ih t σ k)⟩:HU)
    | rc=>⟨fun ih t σ k=>(HQ P G false ops n o).run ih t σ (xP P G ops rc (fun t σ=>(vw P G ops n l).run ih t σ k))⟩)
   | none=>⟨fun _ _ _ _=>.err 87⟩).run ih t σ (ux d)=(match ops[i]? with
   | some o=>iw P G ih false ops n o t σ (fun t' σ'=>bif cM P G ops t' σ' rc then jh P G ih ops n d l t' σ' else .err 86)
   | none=>.err 87)
  rw[fC,aT_];cases ops[i]? with
  | none=>rfl
  | some o=>
   dsimp only;cases rc with
   | nil=>
    show(HQ P G false ops n o).run ih t σ (fun t σ=>(vw P G ops n l).run ih t σ (ux d))=_;rw[CD];congr 1;funext t' σ';exact vx P G ops n ih d l t' σ'
   | cons q rc=>
    show(HQ P G false ops n o).run ih t σ (xP P G ops (q::rc) (fun t σ=>(vw P G ops n l).run ih t σ (ux d)))=_;rw[CD];congr 1;funext t' σ';unfold xP;dsimp only;rw[vx P G ops n ih d l t' σ']
structure LP where
 run:iE->PT AV->List DE->Option Pos->aD->CR
def LX (P:Program) (G:Cx) (c:Code) (n:Nat):LP:=
 match c with
 | .skip | .label _=>⟨fun _ t d _ σ=>.ok .normal t d σ⟩
 | .region _ ops draw=>bif draw then(bif qv P ops then⟨fun ih t d _ σ=>(vw P G ops n (sE P ops)).run ih t σ (ux d)⟩ else⟨fun _ _ _ _ _=>.err 88⟩)
   else(bif ml ops.toList then⟨fun _ t d ro σ=>BN P G ops n ro d t σ⟩ else⟨fun ih t d _ σ=>wu d ((Hd P G ops n ops.toList).run ih t σ (ux d))⟩)
 | .seq a b=>⟨fun ih t d ro σ=>wB (ih a t n d ro σ) (fun t d σ=>ih b t n d ro σ)⟩
 | .cond x a b=>⟨fun ih t d ro σ=>wO ((mU G x).run t) (ih a t n d ro σ) (ih b t n d ro σ)⟩
 | .block id b=>⟨fun ih t d ro σ=>r8 id (ih b t n d ro σ)⟩
 | .scope b=>⟨fun ih t d ro σ=>Cz (ih b t n d ro σ)⟩
 | .loop b=>⟨fun ih t d ro σ=>wB (ih b t n d ro σ) (fun t d σ=>ih (.loop b) t n d ro σ)⟩
 | .exit id=>⟨fun _ t d _ σ=>.ok (.exit id) t d σ⟩
 | .ret=>⟨fun _ t d _ σ=>.ok .ret t d σ⟩
 | .rangeFunc g ps assign body=>⟨fun ih t d ro σ=>yC P G ih g ps assign body t n d ro σ⟩
 | _=>⟨fun _ _ _ _ _=>.err 99⟩
theorem JQ (P:Program) (G:Cx) (c:Code) (n:Nat) (ih:iE) (t:PT AV) (d:List DE) (ro:Option Pos) (σ:aD):(LX P G c n).run ih t d ro σ=DJ P G ih c t n d ro σ:=by
 cases c with
 | region id ops draw=>
  cases draw with
  | false=>
   show(bif ml ops.toList then(⟨fun _ t d ro σ=>BN P G ops n ro d t σ⟩:LP) else⟨fun ih t d _ σ=>wu d ((Hd P G ops n ops.toList).run ih t σ (ux d))⟩).run ih t d ro σ=bif ml ops.toList then BN P G ops n ro d t σ else wu d (rE P G ih ops n d ops.toList t σ);cases ml ops.toList with
   | true=>rfl
   | false=>
    show wu d ((Hd P G ops n ops.toList).run ih t σ (ux d))=wu d (rE P G ih ops n d ops.toList t σ);rw[DB]
  | true=>
   show(bif qv P ops then(⟨fun ih t d _ σ=>(vw P G ops n (sE P ops)).run ih t σ (ux d)⟩:LP) else⟨fun _ _ _ _ _=>.err 88⟩).run ih t d ro σ=s5 P G ih ops n d t σ;unfold s5;cases qv P ops with
   | false=>rfl
   | true=>exact vx P G ops n ih d (sE P ops) t σ
 | cond x a b=>show wO ((mU G x).run t) _ _=_;rw[iC];rfl
 | _=>rfl
def Kz (P:Program) (G:Cx) (fuel:Nat):iE:=Nat.rec (motive:=fun _=>iE) (fun _ _ _ _ _ _=>.err 100) (fun _ ih c t n d ro σ=>(LX P G c n).run ih t d ro σ) fuel
theorem DF (P:Program) (G:Cx):∀(fuel:Nat),Kz P G fuel=ec P G fuel
 | 0=>rfl
 | k+1=>by
  funext c t n d ro σ;show(LX P G c n).run (Kz P G k) t d ro σ=DJ P G (ec P G k) c t n d ro σ;rw[JQ,DF P G k]
def zQ (P:Program) (G:Cx) (fuel:Nat) (f:Nat) (args:List AV) (σ:aD):KR:=zy P G (Kz P G fuel) f args σ
theorem Gd (P:Program) (G:Cx) (fuel:Nat) (f:Nat) (args:List AV) (σ:aD):zQ P G fuel f args σ=uC P G fuel f args σ:=by
 unfold zQ uC;rw[zA,DF]
end Go.Ev
namespace Go.Ev
variable [Env]
open Go.ChangeShapes Go.WideShapes Go.ChangeAt Go.RowKit
def w6 (one:TypeId->DataW Unit->Option (List Value)) (P:Program):List (Nat×TypeId)->Nat->List (DataW Unit)->Option (List Value)
 | [],_,[]=>some []
 | (o,t)::l,off,d::ds=>
  match one t d,w6 one P l (off+P.cellsOf t) ds with
  | some vs,some us=>if o=off/\vs.length=P.cellsOf t then some (vs++us) else none
  | _,_=>none
 | _,_,_=>none
def pW (P:Program):Nat->TypeId->DataW Unit->Option (List Value)
 | 0,_,_=>none
 | n+1,t,d=>
  match P.underlying t,d with
  | some .bool,.lit (.bool b)=>some [.bool b]
  | some (.int k),.lit (.int k' i)=>if k'=k then some [.int k i] else none
  | some (.struct fs),.agg ps=>match w6 (pW P n) P (fs.toList.map fun f=>(f.offset,f.type)) 0 ps with
   | some vs=>if vs.length=P.cellsOf t then some vs else none
   | none=>none
  | some (.array m e),.agg ps=>match w6 (pW P n) P ((List.range m).map fun i=>(i*P.cellsOf e,e)) 0 ps with
   | some vs=>if vs.length=P.cellsOf t then some vs else none
   | none=>none
  | _,_=>none
theorem uI {P:Program} {w:World} {base:Nat} {sp:Nat->Bool} {held:Bool} {fuel:Nat} {one:TypeId->DataW Unit->Option (List Value)} {cs:List Value}
  (ih:∀t l d p vs,DataW.trod (fun _=>()) P w base sp held fuel t l=some (d,p)->one t d=some vs->l=vs) {α:Type} (g:α->Nat×TypeId):
  ∀(l:List α) (off:Nat) (xs:List (DataW Unit×List MemPlace)) (vs:List Value),
   (l.mapM fun x=>DataW.trod (fun _=>()) P w base sp held fuel (g x).2 ((cs.drop (g x).1).take (P.cellsOf (g x).2)))=some xs->w6 one P (l.map g) off (xs.map (·.1))=some vs->
   (cs.drop off).take vs.length=vs
 | [],off,xs,vs,h,hf=>by
  simp at h;subst h;simp[w6] at hf;subst hf;simp
 | x::l,off,xs,vs,h,hf=>by
  simp only[List.mapM_cons,Option.bind_eq_bind,Option.bind_eq_some_iff,Option.pure_def,oJ_] at h;obtain⟨⟨d,p⟩,h1,r,h2,rfl⟩:=h;simp only[List.map_cons,w6] at hf;split at hf
  ·rename_i v1 v2 e1 e2;split at hf
   ·rename_i hc;obtain⟨ho,hl⟩:=hc;cases hf;have k1:=ih _ _ _ _ _ h1 e1;have k2:=uI ih g l _ r v2 h2 e2;rw[lA_,List.take_add,hl,List.drop_drop,k2,<-ho,k1]
   cases hf
  cases hf
theorem zU {P:Program} {w:World} {base:Nat} {sp:Nat->Bool} {held:Bool}:∀(m fuel:Nat) (t:TypeId) (cs:List Value) (d:DataW Unit) (p:List MemPlace) (vs:List Value),
  DataW.trod (fun _=>()) P w base sp held fuel t cs=some (d,p)->pW P m t d=some vs->cs=vs
 | 0,_,_,_,_,_,_,_,h=>by cases h
 | _+1,0,_,_,_,_,_,h,_=>by simp[DataW.trod] at h
 | m+1,fuel+1,t,cs,d,p,vs,h,hf=>by
  have ih:∀t l d p vs,DataW.trod (fun _=>()) P w base sp held fuel t l=some (d,p)->pW P m t d=some vs->l=vs:=fun t l d p vs=>zU m fuel t l d p vs
  simp only[pW] at hf;split at hf
  ·rename_i hu;cases hf;unfold DataW.trod at h;rw[hu] at h;split at h<;>simp_all
  ·rename_i hu;split at hf
   ·rename_i hk;cases hf;unfold DataW.trod at h;rw[hu] at h;split at h<;>simp_all
   cases hf
  ·rename_i fs ps hu;split at hf
   ·rename_i vs' hg;split at hf
    ·rename_i hl;cases hf;unfold DataW.trod at h;rw[hu] at h;dsimp only at h;split at h
     ·rename_i hcl;obtain⟨xs,hm,hx⟩:=oM_.1 h;have hps:ps=xs.map (·.1):=by have:=congrArg Prod.fst hx;simpa using this.symm
      subst hps;have:=uI (cs:=cs) ih (fun f:Field=>(f.offset,f.type)) fs.toList 0 xs vs hm hg;rw[List.drop_zero,hl,<-hcl,List.take_length] at this;exact this
     cases h
    cases hf
   cases hf
  ·rename_i n e ps hu;split at hf
   ·rename_i vs' hg;split at hf
    ·rename_i hl;cases hf;unfold DataW.trod at h;rw[hu] at h;dsimp only at h;split at h
     ·rename_i hcl;obtain⟨xs,hm,hx⟩:=oM_.1 h;have hps:ps=xs.map (·.1):=by have:=congrArg Prod.fst hx;simpa using this.symm
      subst hps;have:=uI (cs:=cs) ih (fun i:Nat=>(i*P.cellsOf e,e)) (List.range n) 0 xs vs hm hg;rw[List.drop_zero,hl,<-hcl,List.take_length] at this;exact this
     cases h
    cases hf
   cases hf
  cases hf
theorem ni {P:Program} {w:World} {l:List (String×DataW Unit)} (n:String) {d:DataW Unit} {g:Nat} {t:TypeId} {m:Nat} {vs:List Value}
  (h:laidMetH P l w) (hl:l.filter (fun x=>x.1 == n)= [(n,d)]) (hd:d.handleName?=none) (hg:P.globalNamed n=some g) (ht:(P.globals[g]?).map (·.type)=some t) (hf:pW P m t d=some vs):
  ∃e fr,w.heap[g]?=some (.cells vs.toArray e fr):=by
 have h1:=h.filter fun x=>x.1 == n
 rw[hl] at h1
 have h2:laidMet P [(n,d)] w:=by
  unfold laidMetH at h1;simp only[List.filter_cons,hd,List.filter_nil,Option.isSome_none] at h1;exact h1
 obtain⟨ps,⟨g',t',cs,fuel,p,q,k1,k2,k3,k4,_,_⟩,_,_⟩:=h2;rw[hg] at k1;cases k1;rw[ht] at k2;cases k2;have k5:=zU m fuel t cs.toList d p vs k4 hf;unfold World.var? at k3;rw[hg] at k3;simp only[Option.bind_some] at k3;split at k3
 ·rename_i cs' e fr hh;cases k3;exact⟨e,fr,by rw[hh,<-k5]⟩
 cases k3
theorem tY {α β:Type} {f:α->Option β}:∀{l:List α} {r:List β},cF f l=some r->r.length=l.length/\∀(i:Nat) (v:β),r[i]?=some v->∃y,l[i]?=some y/\f y=some v
 | [],r,h=>by
  rw[gL] at h;cases h;exact⟨rfl,fun i v hv=>by simp at hv⟩
 | x::l,r,h=>by
  obtain⟨y,r',h1,h2,rfl⟩:=fX h;obtain⟨k1,k2⟩:=tY h2;refine⟨by simp[k1],fun i v hv=>?_⟩;cases i with
  | zero=>simp at hv;subst hv;exact⟨x,rfl,h1⟩
  | succ i=>
   simp only[List.getElem?_cons_succ] at hv⊢;exact k2 i v hv
theorem jZ.of {w:World} {g:Nat} {cells:List AV} {vs:List Value} {e:TypeId} {fr:Nat×Nat} (hb:w.heap[g]?=some (.cells vs.toArray e fr)) (hv:cF jH vs=some cells):jZ w (g,cells):=by
 obtain⟨k1,k2⟩:=tY hv;refine⟨vs.toArray,e,fr,hb,by simp[k1],fun i v hi=>?_⟩;obtain⟨y,hy,hv'⟩:=k2 i v hi;exact⟨y,by simpa using hy,nq hv'⟩
def σG (gl:Nat) (l:List (Nat×List AV)) (E:Nat->TypeId):aD:=⟨gl,Ce l E⟩
theorem σG_get {gl:Nat} {l:List (Nat×List AV)} {E:Nat->TypeId} {b:Nat} {o:bQ} (h:(σG gl l E).m.get b=some o):∃x∈l,x.1=b/\o= .row x.2 (E x.1) true:=uX E h
def sI (w:World) (b:Nat):Nat:=
 match w.heap[b]? with
 | some (.cells cs _ _)=>cs.size
 | _=>0
def elemAt (w:World) (b:Nat):TypeId:=
 match w.heap[b]? with
 | some (.cells _ e _)=>e
 | _=>0
def ρG (w:World) (gl:Nat):cz:=fun b=>if b<gl then some ⟨b,0,sI w b⟩ else none
theorem ρG_some {w:World} {gl:Nat} {b:Nat} {l:Loc} (h:ρG w gl b=some l):b<gl/\l=⟨b,0,sI w b⟩:=by
 unfold ρG at h;split at h
 ·rename_i hb;cases h;exact⟨hb,rfl⟩
 cases h
def y7 (gl:Nat) (l:List (Nat×List AV)):Bool:=l.all fun x=>Nat.blt x.1 gl && ep x.2
theorem Lg {w:World} {gl:Nat} {l:List (Nat×List AV)} (ho:Fy w) (hgl:gl<=w.heap.size) (hwf:y7 gl l=true) (hl:∀x∈l,jZ w x):Inv (ρG w gl) (σG gl l (elemAt w)) w:=by
 have hwf':∀x∈l,x.1<gl/\ep x.2=true:=fun x hx=>by
  have:=aE_.1 hwf x hx;rw[bA_,qW] at this;exact this
 refine⟨⟨fun b hb=>?_,fun b l' h=>?_,fun b o l' h1 h2=>?_,fun b b' o o' l1 l2 h1 h2 h3 h4 he hne=>?_⟩,ho.1,ho.2,fun r _ ⟨b,o,l',h1,h2,_,_⟩=>by
  obtain⟨x,_,_,rfl⟩:=σG_get h1;cases h2⟩
 ·have hb':¬b<gl:=Nat.not_lt.2 hb;refine⟨by unfold ρG;rw[if_neg hb'],?_⟩;cases h:(σG gl l (elemAt w)).m.get b with
  | none=>rfl
  | some o=>
   obtain⟨x,hx,rfl,_⟩:=σG_get h;exact absurd (hwf' x hx).1 hb'
 ·obtain⟨hb,rfl⟩:=ρG_some h;exact Nat.lt_of_lt_of_le hb hgl
 ·obtain⟨x,hx,rfl,rfl⟩:=σG_get h1;obtain⟨hb,rfl⟩:=ρG_some h2;obtain⟨c,e,fr,k1,k2,k3⟩:=hl x hx;have hs:sI w x.1=c.size:=by unfold sI;rw[k1]
  have he:elemAt w x.1=e:=by unfold elemAt;rw[k1]
  refine⟨_,k1,c,fr,by rw[he],?_,?_,fun i v hv=>?_,fun h=>by cases h⟩
  ·simp[hs]
  ·show x.2.length<=sI w x.1;rw[hs];exact k2
  obtain⟨y,hy,hv'⟩:=k3 i v hv;exact⟨y,by simpa using hy,mN (jR (hwf' x hx).2 v (gB_ hv)) hv'⟩
 obtain⟨x,hx,rfl,rfl⟩:=σG_get h1;obtain⟨y,hy,rfl,rfl⟩:=σG_get h2;exact⟨rfl,rfl⟩
theorem js.IM {w w':World} {gl:Nat} {l:List (Nat×List AV)} {E:Nat->TypeId} {ρ ρ':cz} {σ':aD} (h:dZ ρ (σG gl l E) w ρ' σ' w'):js w w':=
 ⟨h.os,h.out,h.tape,h.size,fun r hr=>h.frame r hr fun⟨b,o,l',h1,h2,_⟩=>by
  obtain⟨x,_,_,rfl⟩:=σG_get h1;cases h2⟩
def oI:KR->Bool
 | .ret (.bool true) _=>true
 | _=>false
theorem yN {r:KR} (h:oI r=true):∃σ,r= .ret (.bool true) σ:=by
 unfold oI at h;split at h
 ·exact⟨_,rfl⟩
 cases h
theorem BE {P:Program} {G:Cx} (hm:P.follows .mixedOrders=true) (hC:ze P G) {fuel f:Nat} {w:World} (ho:Fy w) (hgl:G.gl<=w.heap.size) (hwf:y7 G.gl G.laid=true) (hl:∀x∈G.laid,jZ w x)
  (h:∀E,oI (zQ P G fuel f [] (σG G.gl G.laid E))=true):Calls P f #[] w fun e w'=>e= .returned (.bool true)/\js w w':=by
 have h:=h (elemAt w);rw[Gd] at h;obtain⟨σ,h⟩:=yN h;refine oh hm hC h (Lg ho hgl hwf hl) (fun g hg=>⟨_,by show ρG w G.gl g=_;unfold ρG;rw[if_pos hg]⟩) cG.nil fun ρ' w' x _ st hv=>?_
 simp only[VR] at hv;exact⟨by rw[hv],js.IM st⟩
theorem Cd {P:Program} {G:Cx} (hm:P.follows .mixedOrders=true) (hC:ze P G) {fuel f:Nat} (hwf:y7 G.gl G.laid=true) (h:∀E,oI (zQ P G fuel f [] (σG G.gl G.laid E))=true):CV P G.gl G.laid f [] (.bool true):=fun w xs hgl ho hl hx=>by
 have:xs= #[]:=by
  have:=hx.ee;rw[<-Array.toList_inj];exact this
 subst this;exact(BE hm hC (w:=w) ho hgl hwf hl h).mono fun e w' ⟨h1,h2⟩=>⟨_,h1,by simp only[VR],h2⟩
end Go.Ev
namespace Go.Ev
variable [Env]
section
variable {P:Program} {G:Cx}
def Ev (P:Program) (G:Cx) (c:Code) (n:Nat) (t:PT AV) (σ:aD) (Q:Ex->PT AV->aD->Prop):Prop:=
 ∃(K:Nat) (e:Ex) (t':PT AV) (σ':aD),(∀k,K<=k->ec P G k c t n [] none σ= .ok e t' [] σ')/\Q e t' σ'
def bp (P:Program) (G:Cx) (f:Nat) (args:List AV) (σ:aD) (R:AV->aD->Prop):Prop:=
 ∃(K:Nat) (v:AV) (σ':aD),(∀k,K<=k->kU P G (ec P G k) f args σ= .ret v σ')/\R v σ'
def bZ (P:Program) (G:Cx) (ops:Array Oper) (n:Nat) (l:List Oper) (t:PT AV) (σ:aD) (Q:Ex->PT AV->aD->Prop):Prop:=
 ∃(K:Nat) (e:Ex) (t':PT AV) (σ':aD),(∀k,K<=k->rE P G (ec P G k) ops n [] l t σ= .ok e t' [] σ')/\Q e t' σ'
def cy (P:Program) (G:Cx) (ops:Array Oper) (n:Nat) (l:List (Nat×List Nat)) (t:PT AV) (σ:aD) (Q:Ex->PT AV->aD->Prop):Prop:=
 ∃(K:Nat) (e:Ex) (t':PT AV) (σ':aD),(∀k,K<=k->jh P G (ec P G k) ops n [] l t σ= .ok e t' [] σ')/\Q e t' σ'
theorem Ev.mono {c:Code} {n:Nat} {t:PT AV} {σ:aD} {Q Q':Ex->PT AV->aD->Prop} (h:Ev P G c n t σ Q) (hq:∀e t' σ',Q e t' σ'->Q' e t' σ'):Ev P G c n t σ Q':=
 let ⟨K,e,t',σ',h1,h2⟩:=h;⟨K,e,t',σ',h1,hq _ _ _ h2⟩
theorem bp.mono {f:Nat} {args:List AV} {σ:aD} {R R':AV->aD->Prop} (h:bp P G f args σ R) (hq:∀v σ',R v σ'->R' v σ'):bp P G f args σ R':=
 let ⟨K,v,σ',h1,h2⟩:=h;⟨K,v,σ',h1,hq _ _ h2⟩
section
variable {n:Nat} {t:PT AV} {σ:aD} {Q:Ex->PT AV->aD->Prop}
theorem aH (h:Q .normal t σ):Ev P G .skip n t σ Q:=⟨1,.normal,t,σ,fun k hk=>by obtain⟨j,rfl⟩:∃j,k=j+1:=⟨k-1,by omega⟩;rfl,h⟩
theorem bn {id:Nat} (h:Q (.exit id) t σ):Ev P G (.exit id) n t σ Q:=⟨1,_,t,σ,fun k hk=>by obtain⟨j,rfl⟩:∃j,k=j+1:=⟨k-1,by omega⟩;rfl,h⟩
theorem aC (h:Q .ret t σ):Ev P G .ret n t σ Q:=⟨1,_,t,σ,fun k hk=>by obtain⟨j,rfl⟩:∃j,k=j+1:=⟨k-1,by omega⟩;rfl,h⟩
def qa (P:Program) (G:Cx) (n:Nat) (b:Code) (Q:Ex->PT AV->aD->Prop) (e:Ex) (t:PT AV) (σ:aD):Prop:=
 match e with
 | .normal=>Ev P G b n t σ Q
 | e=>Q e t σ
theorem aj {a b:Code} (h:Ev P G a n t σ (qa P G n b Q)):Ev P G (.seq a b) n t σ Q:=by
 obtain⟨K,e,t',σ',h1,h2⟩:=h
 have step:∀k,K<=k->ec P G (k+1) (.seq a b) t n [] none σ=wB (.ok e t' [] σ') (fun t d σ=>ec P G k b t n d none σ):=fun k hk=>by
  show wB (ec P G k a t n [] none σ) (fun t d σ=>ec P G k b t n d none σ)=_;rw[h1 k hk]
 cases e with
 | normal=>
  obtain⟨K2,e2,t2,σ2,h3,h4⟩:=h2;refine⟨max K K2+1,e2,t2,σ2,fun k hk=>?_,h4⟩;obtain⟨j,rfl⟩:∃j,k=j+1:=⟨k-1,by omega⟩;rw[step j (by omega)];exact h3 j (by omega)
 | _=>
  refine⟨K+1,_,t',σ',fun k hk=>?_,h2⟩;obtain⟨j,rfl⟩:∃j,k=j+1:=⟨k-1,by omega⟩;rw[step j (by omega)];rfl
theorem yd {x:Operand} {a b:Code} {c:Bool} (hc:bo G t x=some (.bool c)) (h:Ev P G (if c then a else b) n t σ Q):Ev P G (.cond x a b) n t σ Q:=by
 obtain⟨K,e,t',σ',h1,h2⟩:=h;refine⟨K+1,e,t',σ',fun k hk=>?_,h2⟩;obtain⟨j,rfl⟩:∃j,k=j+1:=⟨k-1,by omega⟩;show wO (bo G t x) (ec P G j a t n [] none σ) (ec P G j b t n [] none σ)=_;rw[hc];have:=h1 j (by omega);cases c<;>exact this
def qh (id:Nat) (Q:Ex->PT AV->aD->Prop) (e:Ex) (t:PT AV) (σ:aD):Prop:=
 match e with
 | .exit j=>if j=id then Q .normal t σ else Q (.exit j) t σ
 | e=>Q e t σ
theorem aM {id:Nat} {b:Code} (h:Ev P G b n t σ (qh id Q)):Ev P G (.block id b) n t σ Q:=by
 obtain⟨K,e,t',σ',h1,h2⟩:=h
 have step:∀k,K<=k->ec P G (k+1) (.block id b) t n [] none σ=r8 id (.ok e t' [] σ'):=fun k hk=>by
  show r8 id (ec P G k b t n [] none σ)=_;rw[h1 k hk]
 cases e with
 | exit q=>
  by_cases hq:q=id
  ·subst hq;refine⟨K+1,.normal,t',σ',fun k hk=>?_,by simpa [qh] using h2⟩;obtain⟨j,rfl⟩:∃j,k=j+1:=⟨k-1,by omega⟩;rw[step j (by omega)];show(bif Nat.beq q q then _ else _)=_;rw[Nat.beq_refl];rfl
  refine⟨K+1,.exit q,t',σ',fun k hk=>?_,by simpa [qh,hq] using h2⟩;obtain⟨j,rfl⟩:∃j,k=j+1:=⟨k-1,by omega⟩;rw[step j (by omega)];show(bif Nat.beq q id then _ else _)=_
  have:Nat.beq q id=false:=by
   cases hh:Nat.beq q id with
   | false=>rfl
   | true=>exact absurd (nB hh) hq
  rw[this];rfl
 | _=>
  refine⟨K+1,_,t',σ',fun k hk=>?_,h2⟩;obtain⟨j,rfl⟩:∃j,k=j+1:=⟨k-1,by omega⟩;rw[step j (by omega)];rfl
theorem Io {b:Code} (I:Nat->PT AV->aD->Prop) (step:∀j t σ,I j t σ->Ev P G b n t σ (fun e t' σ'=>match e with | .normal=>∃i,i<j/\I i t' σ' | e=>Q e t' σ')):
  ∀(j:Nat) (t:PT AV) (σ:aD),I j t σ->Ev P G (.loop b) n t σ Q:=by
 intro j;induction j using Nat.strongRecOn with
 | _ j ih=>
  intro t σ hI;obtain⟨K,e,t',σ',h1,h2⟩:=step j t σ hI
  have st:∀k,K<=k->ec P G (k+1) (.loop b) t n [] none σ=wB (.ok e t' [] σ') (fun t d σ=>ec P G k (.loop b) t n d none σ):=fun k hk=>by
   show wB (ec P G k b t n [] none σ) (fun t d σ=>ec P G k (.loop b) t n d none σ)=_;rw[h1 k hk]
  cases e with
  | normal=>
   obtain⟨i,hi,hI'⟩:=h2;obtain⟨K2,e2,t2,σ2,h3,h4⟩:=ih i hi t' σ' hI';refine⟨max K K2+1,e2,t2,σ2,fun k hk=>?_,h4⟩;obtain⟨q,rfl⟩:∃q,k=q+1:=⟨k-1,by omega⟩;rw[st q (by omega)];exact h3 q (by omega)
  | _=>
   refine⟨K+1,_,t',σ',fun k hk=>?_,h2⟩;obtain⟨q,rfl⟩:∃q,k=q+1:=⟨k-1,by omega⟩;rw[st q (by omega)];rfl
theorem ah {id:Nat} {ops:Array Oper} (hd:ml ops.toList=false) (h:bZ P G ops n ops.toList t σ Q):Ev P G (.region id ops false) n t σ Q:=by
 obtain⟨K,e,t',σ',h1,h2⟩:=h;refine⟨K+1,e,t',σ',fun k hk=>?_,h2⟩;obtain⟨j,rfl⟩:∃j,k=j+1:=⟨k-1,by omega⟩;show(bif ml ops.toList then BN P G ops n none [] t σ else wu [] (rE P G (ec P G j) ops n [] ops.toList t σ))=_;rw[hd,h1 j (by omega)];cases e<;>rfl
theorem uB {id:Nat} {ops:Array Oper} (hf:qv P ops=true) (h:cy P G ops n (sE P ops) t σ Q):Ev P G (.region id ops true) n t σ Q:=by
 obtain⟨K,e,t',σ',h1,h2⟩:=h;refine⟨K+1,e,t',σ',fun k hk=>?_,h2⟩;obtain⟨j,rfl⟩:∃j,k=j+1:=⟨k-1,by omega⟩;show s5 P G (ec P G j) ops n [] t σ=_;unfold s5;rw[hf];exact h1 j (by omega)
theorem af {ops:Array Oper} (h:Q .normal t σ):bZ P G ops n [] t σ Q:=⟨0,.normal,t,σ,fun _ _=>rfl,h⟩
theorem aa {ops:Array Oper} {o:Oper} {l:List Oper} {v:AV} {t':PT AV} {σ':aD} (hw:bu ops t o=some true) (hv:dJ P G (bo G t) σ o.op= .val v σ') (hp:cO t n o.dst v=some t') (h:bZ P G ops n l t' σ' Q):bZ P G ops n (o::l) t σ Q:=by
 obtain⟨K,e,t2,σ2,h1,h2⟩:=h;refine⟨K,e,t2,σ2,fun k hk=>?_,h2⟩;show iw P G (ec P G k) true ops n o t σ (rE P G (ec P G k) ops n [] l)=_;unfold iw;rw[hw];dsimp only;rw[hv];dsimp only[kA];rw[hp];exact h1 k hk
theorem kZ {ops:Array Oper} {o:Oper} {l:List Oper} {t':PT AV} {σ':aD} (hw:bu ops t o=some true) (hv:dJ P G (bo G t) σ o.op= .skip σ') (hp:cO t n o.dst unit=some t') (h:bZ P G ops n l t' σ' Q):bZ P G ops n (o::l) t σ Q:=by
 obtain⟨K,e,t2,σ2,h1,h2⟩:=h;refine⟨K,e,t2,σ2,fun k hk=>?_,h2⟩;show iw P G (ec P G k) true ops n o t σ (rE P G (ec P G k) ops n [] l)=_;unfold iw;rw[hw];dsimp only;rw[hv];dsimp only[kA];rw[hp];exact h1 k hk
theorem ae {ops:Array Oper} {o:Oper} {l:List Oper} {t':PT AV} (hw:bu ops t o=some false) (hp:cO t n o.dst unit=some t') (h:bZ P G ops n l t' σ Q):bZ P G ops n (o::l) t σ Q:=by
 obtain⟨K,e,t2,σ2,h1,h2⟩:=h;refine⟨K,e,t2,σ2,fun k hk=>?_,h2⟩;show iw P G (ec P G k) true ops n o t σ (rE P G (ec P G k) ops n [] l)=_;unfold iw;rw[hw];dsimp only;rw[hp];exact h1 k hk
theorem BZ {ops:Array Oper} {o:Oper} {l:List Oper} {f:Nat} {args:List AV} {σ₁:aD} (hw:bu ops t o=some true) (hv:dJ P G (bo G t) σ o.op= .enter f args σ₁)
  (h:bp P G f args σ₁ fun v σ'=>∃t',cO t n o.dst v=some t'/\bZ P G ops n l t' σ' Q):bZ P G ops n (o::l) t σ Q:=by
 obtain⟨K,v,σ',h1,t',hp,K2,e,t2,σ2,h3,h4⟩:=h;refine⟨max K K2,e,t2,σ2,fun k hk=>?_,h4⟩;show iw P G (ec P G k) true ops n o t σ (rE P G (ec P G k) ops n [] l)=_;unfold iw;rw[hw];dsimp only;rw[hv];dsimp only[kA];rw[h1 k (by omega)];dsimp only;rw[hp];exact h3 k (by omega)
theorem aZ {ops:Array Oper} (h:Q .normal t σ):cy P G ops n [] t σ Q:=⟨0,.normal,t,σ,fun _ _=>rfl,h⟩
theorem al {ops:Array Oper} {i:Nat} {o:Oper} {l:List (Nat×List Nat)} {v:AV} {t':PT AV} {σ':aD} (hi:ops[i]?=some o) (hw:bu ops t o=some true) (hv:dJ P G (bo G t) σ o.op= .val v σ') (hp:cO t n o.dst v=some t') (h:cy P G ops n l t' σ' Q):cy P G ops n ((i,[])::l) t σ Q:=by
 obtain⟨K,e,t2,σ2,h1,h2⟩:=h;refine⟨K,e,t2,σ2,fun k hk=>?_,h2⟩
 show(match ops[i]? with
  | some o=>iw P G (ec P G k) false ops n o t σ (fun t' σ'=>bif cM P G ops t' σ' [] then jh P G (ec P G k) ops n [] l t' σ' else .err 86)
  | none=>.err 87)=_
 rw[hi];unfold iw;dsimp only;rw[hw];dsimp only;rw[hv];dsimp only[kA];rw[hp];exact h1 k hk
theorem au {ops:Array Oper} {i:Nat} {o:Oper} {l:List (Nat×List Nat)} {t':PT AV} (hi:ops[i]?=some o) (hw:bu ops t o=some false) (hp:cO t n o.dst unit=some t') (h:cy P G ops n l t' σ Q):cy P G ops n ((i,[])::l) t σ Q:=by
 obtain⟨K,e,t2,σ2,h1,h2⟩:=h;refine⟨K,e,t2,σ2,fun k hk=>?_,h2⟩
 show(match ops[i]? with
  | some o=>iw P G (ec P G k) false ops n o t σ (fun t' σ'=>bif cM P G ops t' σ' [] then jh P G (ec P G k) ops n [] l t' σ' else .err 86)
  | none=>.err 87)=_
 rw[hi];unfold iw;dsimp only;rw[hw];dsimp only;rw[hp];exact h1 k hk
theorem zP {ops:Array Oper} {i:Nat} {o:Oper} {rc:List Nat} {l:List (Nat×List Nat)} {f:Nat} {args:List AV} {σ₁:aD} (hi:ops[i]?=some o) (hw:bu ops t o=some true) (hv:dJ P G (bo G t) σ o.op= .enter f args σ₁)
  (h:bp P G f args σ₁ fun v σ'=>∃t',cO t n o.dst v=some t'/\cM P G ops t' σ' rc=true/\cy P G ops n l t' σ' Q):cy P G ops n ((i,rc)::l) t σ Q:=by
 obtain⟨K,v,σ',h1,t',hp,hs,K2,e,t2,σ2,h3,h4⟩:=h;refine⟨max K K2,e,t2,σ2,fun k hk=>?_,h4⟩
 show(match ops[i]? with
  | some o=>iw P G (ec P G k) false ops n o t σ (fun t' σ'=>bif cM P G ops t' σ' rc then jh P G (ec P G k) ops n [] l t' σ' else .err 86)
  | none=>.err 87)=_
 rw[hi];unfold iw;dsimp only;rw[hw];dsimp only;rw[hv];dsimp only[kA];rw[h1 k (by omega)];dsimp only;rw[hp];dsimp only;rw[hs];exact h3 k (by omega)
end
theorem Im {f:Nat} {fn:Func} {c:Code} {args:List AV} {σ:aD} {R:AV->aD->Prop} {t:PT AV} (hktb:G.Gz f args σ=none) (htbl:G.Hq f args=none) (hmem:w0 G.gl G.laid G.mem f args σ=none) (hstop:G.stop f args σ=none) (hfk:G.fk f=false)
  (hf:P.funcs[f]?=some fn) (hb:fn.body=some c) (ha:pN fn.ntmps args=some t)
  (h:Ev P G c fn.ntmps t σ fun e t' σ'=>(e= .normal∨e= .ret)/\∃v,dX P fn t' σ'=some v/\R v σ'):bp P G f args σ R:=by
 obtain⟨K,e,t',σ',h1,he,v,h2,h3⟩:=h;refine⟨K,v,σ',fun k hk=>?_,h3⟩;unfold kU;rw[hktb];dsimp only;rw[htbl];dsimp only;rw[hmem];dsimp only;rw[hstop];dsimp only;rw[hfk];simp only[cond_false];unfold mH;rw[hf];dsimp only;rw[hb,ha];dsimp only;rw[h1 k hk];rcases he with rfl | rfl<;>
 ·dsimp only;unfold ya;rw[show ss P G (ec P G k) [] .ret σ'=some (.ret,σ') from rfl];dsimp only;rw[h2]
theorem Ga {f:Nat} {args:List AV} {σ:aD} {R:AV->aD->Prop} {v:AV} (hktb:G.Gz f args σ=none) (htbl:G.Hq f args=some v) (h1:ep args=true) (h2:mM v=true) (h3:jE G.gl σ G.laid=true) (h:R v σ):bp P G f args σ R:=by
 refine⟨0,v,σ,fun k _=>?_,h⟩;unfold kU;rw[hktb];dsimp only;rw[htbl];dsimp only;rw[h1,h2,h3];rfl
end
def oN (P:Program):List Field->Nat->Option Nat
  | [],off=>some off
  | f::r,off=>if f.offset=off then oN P r (off+P.cellsOf f.type) else none
def db {H:Type} (P:Program) (σ:aD):Nat->TypeId->DataW H->List AV->Prop
  | 0,_,_,_=>False
  | fuel+1,t,d,vs=>
    match P.underlying t,d with
    | some .bool,.lit (.bool b)=>vs= [.bool b]
    | some (.int k),.lit (.int k' n)=>k'=k/\(Lit.int k n).wf=true/\vs= [.int k n]
    | some .string,.lit (.string s)=>s.length<=maxLen/\vs= [.str (s.map UInt8.toNat)]
    | some (.slice _),.nil=>vs= [.aK]
    | some (.slice e),.slice elems spare=>1<=P.cellsOf e->∃(b:Nat) (c:rZ) (cells:List AV) (e':Nat),vs= [.slice b 0 elems.length c]/\elems.length<=maxLen/\σ.m.get b=some (.row cells e' true)/\
        (c= .known (elems.length+spare.length)∨c= .upto (P.cellsOf e))/\cells.length=elems.length*P.cellsOf e/\
        ∀(i:Nat) (x:DataW H),elems[i]?=some x->db P σ fuel e x ((cells.drop (i*P.cellsOf e)).take (P.cellsOf e))
    | some (.struct fs),.agg parts=>oN P fs.toList 0=some (P.cellsOf t)->parts.length=fs.size/\vs.length=P.cellsOf t/\
        ∀(i:Nat) (f:Field) (x:DataW H),fs[i]?=some f->parts[i]?=some x->db P σ fuel f.type x ((vs.drop f.offset).take (P.cellsOf f.type))
    | some (.array n e),.agg parts=>P.cellsOf t=n*P.cellsOf e->parts.length=n/\vs.length=P.cellsOf t/\
        ∀(i:Nat) (x:DataW H),parts[i]?=some x->db P σ fuel e x ((vs.drop (i*P.cellsOf e)).take (P.cellsOf e))
    | _,_=>True
theorem db.mono {H:Type} {P:Program} {σ σ':aD} (he:∀(b:Pos) (o:bQ),σ.m.get b=some o->σ'.m.get b=some o):∀(fuel:Nat) (t:TypeId) (d:DataW H) (vs:List AV),db P σ fuel t d vs->db P σ' fuel t d vs
  | 0,_,_,_,h=>h
  | fuel+1,t,d,vs,h=>by
    unfold db at h⊢;split at h
    · exact h
    · exact h
    · exact h
    · exact h
    · intro h1
      obtain⟨b,c,cells,e',k1,k2,k3,k4,k5,k6⟩:=h h1;exact⟨b,c,cells,e',k1,k2,he _ _ k3,k4,k5,fun i x hx=>db.mono he fuel _ _ _ (k6 i x hx)⟩
    · intro h1
      obtain⟨k1,k2,k3⟩:=h h1;exact⟨k1,k2,fun i f x hf hx=>db.mono he fuel _ _ _ (k3 i f x hf hx)⟩
    · intro h1
      obtain⟨k1,k2,k3⟩:=h h1;exact⟨k1,k2,fun i x hx=>db.mono he fuel _ _ _ (k3 i x hx)⟩
    · trivial
theorem cG.flatten {ρ:cz}:∀{vss:List (List AV)} {css:List (List Value)},vss.length=css.length->(∀(i:Nat) (vs:List AV) (cs:List Value),vss[i]?=some vs->css[i]?=some cs->cG ρ vs cs)->cG ρ vss.flatten css.flatten
  | [],[],_,_=>cG.nil
  | [],_::_,h,_=>by simp at h
  | _::_,[],h,_=>by simp at h
  | vs::vss,cs::css,h,hh=>by
    rw[List.flatten_cons,List.flatten_cons];exact(hh 0 vs cs rfl rfl).append (cG.flatten (by simpa using h) fun i a b ha hb=>hh (i+1) a b (by simpa using ha) (by simpa using hb))
theorem mh {α:Type} {m:Nat}:∀{l:List (List α)} {i:Nat} {x:List α},(∀y∈l,y.length=m)->l[i]?=some x->(l.flatten.drop (i*m)).take m=x
  | [],i,x,_,h=>by simp at h
  | y::l,0,x,hm,h=>by
    simp at h;subst h;have hy:=hm y (by simp);simp[<-hy]
  | y::l,i+1,x,hm,h=>by
    have hy:=hm y (by simp);simp only[List.getElem?_cons_succ] at h;rw[List.flatten_cons,show(i+1)*m=y.length+i*m by rw[hy,Nat.succ_mul,Nat.add_comm],List.drop_append,List.drop_eq_nil_of_le (by omega),List.nil_append,Nat.add_sub_cancel_left];exact mh (fun z hz=>hm z (by simp[hz])) h
theorem om {α:Type} {m:Nat}:∀{l:List (List α)},(∀y∈l,y.length=m)->l.flatten.length=l.length*m
  | [],_=>by simp
  | y::l,hm=>by
    rw[List.flatten_cons,lA_,hm y (by simp),om fun z hz=>hm z (by simp[hz]),List.length_cons,Nat.succ_mul,Nat.add_comm]
theorem mF {α:Type} {P:Program}:∀{fs:List Field} {off fin:Nat} {cs:List α},oN P fs off=some fin->fin<=cs.length->(fs.map fun f=>(cs.drop f.offset).take (P.cellsOf f.type)).flatten=(cs.drop off).take (fin-off)/\off<=fin
  | [],off,fin,cs,h,_=>by simp only[oN,oJ_] at h;subst h;simp
  | f::fs,off,fin,cs,h,hl=>by
    simp only[oN] at h;split at h
    · rename_i ho
      obtain⟨h1,h2⟩:=mF h hl;refine⟨?_,by omega⟩;rw[List.map_cons,List.flatten_cons,h1,ho];rw[show fin-off=P.cellsOf f.type+(fin-(off+P.cellsOf f.type)) by omega,List.take_add,List.drop_drop]
    · cases h
theorem tz {α:Type} {P:Program}:∀{fs:List Field} {vss:List (List α)} {off fin:Nat},oN P fs off=some fin->(∀(i:Nat) (f:Field) (vs:List α),fs[i]?=some f->vss[i]?=some vs->vs.length=P.cellsOf f.type)->vss.length=fs.length->
    ∀{i:Nat} {f:Field} {vs:List α},fs[i]?=some f->vss[i]?=some vs->off<=f.offset/\(vss.flatten.drop (f.offset-off)).take (P.cellsOf f.type)=vs
  | [],vss,off,fin,h,hl,hn,i,f,vs,hf,hv=>by simp at hf
  | g::fs,[],off,fin,h,hl,hn,i,f,vs,hf,hv=>by simp at hv
  | g::fs,w::vss,off,fin,h,hl,hn,i,f,vs,hf,hv=>by
    simp only[oN] at h;split at h
    · rename_i ho
      have hw:=hl 0 g w rfl rfl;cases i with
      | zero=>
        simp at hf hv;subst hf;subst hv;refine⟨by omega,?_⟩;rw[ho,Nat.sub_self,List.drop_zero,List.flatten_cons,<-hw];simp
      | succ i=>
        simp only[List.getElem?_cons_succ] at hf hv;obtain⟨h1,h2⟩:=tz h (fun i f vs a b=>hl (i+1) f vs (by simpa using a) (by simpa using b)) (by simpa using hn) hf hv;refine⟨by omega,?_⟩;rw[List.flatten_cons,show f.offset-off=w.length+(f.offset-(off+P.cellsOf g.type)) by omega,List.drop_append,List.drop_eq_nil_of_le (by omega),List.nil_append,Nat.add_sub_cancel_left];exact h2
    · cases h
def jQ (σ:aD):Prop:=∀b o,σ.m.get b=some o->o.ro=true
structure Bi (ρ:cz) (σ:aD) (ρ':cz) (σ':aD):Prop where
  le:ρ.le ρ'
  get:∀(b:Pos) (o:bQ),σ.m.get b=some o->σ'.m.get b=some o
theorem Bi.refl (ρ:cz) (σ:aD):Bi ρ σ ρ σ:=⟨cz.le_refl ρ,fun _ _ h=>h⟩
theorem Bi.trans {ρ ρ₁ ρ₂:cz} {σ σ₁ σ₂:aD} (h:Bi ρ σ ρ₁ σ₁) (h':Bi ρ₁ σ₁ ρ₂ σ₂):Bi ρ σ ρ₂ σ₂:=⟨cz.le_trans h.le h'.le,fun b o hb=>h'.get b o (h.get b o hb)⟩
theorem Inv.Jv {ρ:cz} {σ:aD} {w:World} (hi:Inv ρ σ w) (hr:jQ σ) {l:Loc} {o:bQ} {x:Obj} (hx:w.heap[l.cZ]?=some x) (ho:gn ρ l o x) (hro:o.ro=true):
    Inv (ρ.with σ.next l) (σ.alloc o) w/\jQ (σ.alloc o)/\Bi ρ σ (ρ.with σ.next l) (σ.alloc o):=by
  have hle:=hi.tP l;have hlt:l.cZ<w.heap.size:=(aS_.1 hx).1;have hnew:∀b l',b≠σ.next->(ρ.with σ.next l) b=some l'->ρ b=some l':=fun b l' hb h=>by rwa[cz.dB ρ l hb] at h
  have hget:∀b,b≠σ.next->(σ.alloc o).m.get b=σ.m.get b:=fun b hb=>PT.cV _ _ _ _ hb
  have hsame:(σ.alloc o).m.get σ.next=some o:=PT.cY _ _ _
  have hall:jQ (σ.alloc o):=fun b q hb=>by
    by_cases e:b=σ.next
    · subst e;rw[hsame] at hb;cases hb;exact hro
    · rw[hget b e] at hb;exact hr b q hb
  refine⟨⟨⟨fun b hb=>?_,fun b l' hb=>?_,fun b o' l' hb hl'=>?_,fun b b' o₁ o₂ l₁ l₂ h1 h2 _ _ _ _=>⟨hall b o₁ h1,hall b' o₂ h2⟩⟩,hi.nr.size,hi.nr.same,fun r _ ⟨b,o,l,h1,h2,_,_⟩=>by rw[hall b o h1] at h2;cases h2⟩,hall,hle,fun b q hb=>?_⟩
  · have hb':σ.next.num+1<=b.num:=by simpa [aD.alloc,Pos.iv] using hb
    have hne:b≠σ.next:=fun e=>by subst e;omega
    rw[cz.dB ρ l hne,hget b hne];exact hi.fresh b (by omega)
  · by_cases hne:b=σ.next
    · subst hne;rw[cz.b0] at hb;cases hb;exact hlt
    · exact hi.cZ b l' (hnew b l' hne hb)
  · by_cases hne:b=σ.next
    · subst hne
      rw[cz.b0] at hl';rw[hsame] at hb;cases hb;cases hl';exact⟨x,hx,ho.mono hle⟩
    · rw[hget b hne] at hb
      obtain⟨y,hy,hr'⟩:=hi.obj b o' l' hb (hnew b l' hne hl');exact⟨y,hy,hr'.mono hle⟩
  · have hne:b≠σ.next:=fun e=>by subst e;rw[(hi.fresh _ (nR_ _)).2] at hb;cases hb
    rw[hget b hne];exact hb
section
variable {H:Type} {enc:TypeId×Value->H} {P:Program} {w:World}
def Fx (enc:TypeId×Value->H) (P:Program) (w:World) (fuel:Nat) (t:TypeId) (cs:List Value) (d:DataW H):Prop:=
  ∀(ρ:cz) (σ:aD),Inv ρ σ w->jQ σ->∃(ρ':cz) (σ':aD) (vs:List AV),Inv ρ' σ' w/\jQ σ'/\Bi ρ σ ρ' σ'/\db P σ' fuel t d vs/\cG ρ' vs cs
theorem KZ {ρ:cz}:∀(cs:List Value),cG ρ (cs.map fun _=>AV.any) cs
  | []=>cG.nil
  | _::cs=>cG.cons (by simp only[VR]) (KZ cs)
theorem pg {fuel:Nat} (ih:∀t cs d p,DataW.trod enc P w 0 (fun _=>true) true fuel t cs=some (d,p)->Fx enc P w fuel t cs d):
    ∀(l:List (TypeId×List Value)) (xs:List (DataW H×List MemPlace)),(l.mapM fun q=>DataW.trod enc P w 0 (fun _=>true) true fuel q.1 q.2)=some xs->∀(ρ:cz) (σ:aD),Inv ρ σ w->jQ σ->
      ∃(ρ':cz) (σ':aD) (vss:List (List AV)),Inv ρ' σ' w/\jQ σ'/\Bi ρ σ ρ' σ'/\vss.length=l.length/\xs.length=l.length/\∀(i:Nat) (q:TypeId×List Value) (x:DataW H×List MemPlace) (vs:List AV),l[i]?=some q->xs[i]?=some x->vss[i]?=some vs->db P σ' fuel q.1 x.1 vs/\cG ρ' vs q.2
  | [],xs,h,ρ,σ,hi,hr=>by
    simp at h;subst h;exact⟨ρ,σ,[],hi,hr,Bi.refl _ _,rfl,rfl,fun i q x vs hq=>by simp at hq⟩
  | q::l,xs,h,ρ,σ,hi,hr=>by
    simp only[List.mapM_cons,Option.bind_eq_bind,Option.bind_eq_some_iff,Option.pure_def,oJ_] at h;obtain⟨⟨d,p⟩,h1,r,h2,rfl⟩:=h;obtain⟨ρ₁,σ₁,vs,i1,r1,l1,d1,v1⟩:=ih _ _ _ _ h1 ρ σ hi hr;obtain⟨ρ₂,σ₂,vss,i2,r2,l2,n1,n2,hh⟩:=pg ih l r h2 ρ₁ σ₁ i1 r1;refine⟨ρ₂,σ₂,vs::vss,i2,r2,l1.trans l2,by simp[n1],by simp[n2],fun i q' x vs' hq hx hv=>?_⟩;cases i with
    | zero=>
      simp at hq hx hv;subst hq;subst hx;subst hv;exact⟨db.mono l2.get _ _ _ _ d1,cG.mono l2.le _ _ v1⟩
    | succ i=>exact hh i q' x vs' (by simpa using hq) (by simpa using hx) (by simpa using hv)
theorem lk {α β:Type} {f:α->Option β}:∀{l:List α} {ys:List β},l.mapM f=some ys->ys.length=l.length/\∀(i:Nat) (y:β),ys[i]?=some y->∃x,l[i]?=some x/\f x=some y
  | [],ys,h=>by simp at h;subst h;exact⟨rfl,fun i y hy=>by simp at hy⟩
  | x::l,ys,h=>by
    simp only[List.mapM_cons,Option.bind_eq_bind,Option.bind_eq_some_iff,Option.pure_def,oJ_] at h;obtain⟨y,h1,r,h2,rfl⟩:=h;obtain⟨k1,k2⟩:=lk h2;refine⟨by simp[k1],fun i z hz=>?_⟩;cases i with
    | zero=>simp at hz;subst hz;exact⟨x,rfl,h1⟩
    | succ i=>simpa using k2 i z (by simpa using hz)
theorem sx {α β γ:Type} {f:α->Option β} {g:β->Option γ}:∀{l:List α} {xs:List γ},(l.mapM fun a=>(f a).bind g)=some xs->∃ys,l.mapM f=some ys/\ys.mapM g=some xs
  | [],xs,h=>by simp at h;subst h;exact⟨[],rfl,rfl⟩
  | a::l,xs,h=>by
    simp only[List.mapM_cons,Option.bind_eq_bind,Option.bind_eq_some_iff,Option.pure_def,oJ_] at h;obtain⟨x,⟨b,h1,h2⟩,r,h3,rfl⟩:=h;obtain⟨ys,k1,k2⟩:=sx h3;exact⟨b::ys,by simp[List.mapM_cons,h1,k1],by simp[List.mapM_cons,h2,k2]⟩
theorem mapM_map {α β γ:Type} {f:α->β} {g:β->Option γ}:∀(l:List α),(l.map f).mapM g=l.mapM fun a=>g (f a)
  | []=>rfl
  | a::l=>by simp only[List.map_cons,List.mapM_cons,mapM_map l]
theorem chunks_flatten {α:Type} {m:Nat} (L:List α):∀(n:Nat),((List.range n).map fun k=>(L.drop (k*m)).take m).flatten=L.take (n*m)
  | 0=>by simp
  | n+1=>by
    rw[List.range_succ,List.map_append,List.flatten_append,chunks_flatten L n];simp only[List.map_cons,List.map_nil,List.flatten_cons,List.flatten_nil,List.append_nil];rw[Nat.succ_mul,List.take_add]
theorem uh {a:Addr} {n:Nat} {cs:List Value} (h:w.cells? 0 a n=some cs) (hn:1<=n):∃(c:Array Value) (e:TypeId) (fr:Nat×Nat),w.heap[a.block]?=some (Obj.cells c e fr)/\a.spot=none/\a.off+n<=c.size/\cs=(c.toList.drop a.off).take n:=by
  unfold World.cells? at h;rw[if_pos (Nat.zero_le _)] at h;obtain⟨k1,k2⟩:=lk h;have k1:cs.length=n:=by simpa using k1
  have h0:∃(c:Array Value) (e:TypeId) (fr:Nat×Nat),w.heap[a.block]?=some (Obj.cells c e fr)/\a.spot=none:=by
    have hlt:0<cs.length:=by omega
    obtain⟨x,hx,hc⟩:=k2 0 cs[0] (gC hlt)
    have:x=0:=by
      rw[List.getElem?_range (by omega)] at hx;exact(Option.some.inj hx).symm
    subst this;have ha:a.add 0=a:=by simp[Addr.add]
    rw[ha] at hc;unfold World.cell? at hc;split at hc
    · rename_i c e fr hh
      split at hc
      · cases hc
      · rename_i hs
        exact⟨c,e,fr,hh,by simpa using hs⟩
    · cases hc
  obtain⟨c,e,fr,hh,hs⟩:=h0
  have hcell:∀i y,cs[i]?=some y->c[a.off+i]?=some y:=fun i y hy=>by
    obtain⟨x,hx,hc⟩:=k2 i y hy;have hi:i<n:=by rw[<-k1];exact(gA.1 hy).1
    have:x=i:=by
      rw[List.getElem?_range hi] at hx;exact(Option.some.inj hx).symm
    subst this;rw[Addr.add_eq a x hs] at hc;rwa[cell?_of_heap hh] at hc
  have hsz:a.off+n<=c.size:=by
    have hlt:n-1<cs.length:=by omega
    have:=hcell (n-1) cs[n-1] (gC hlt);have:=(aS_.1 this).1;omega
  refine⟨c,e,fr,hh,hs,hsz,?_⟩;apply List.ext_getElem?;intro i;rw[List.getElem?_take,List.getElem?_drop,aT_ (xs:=c)]
  by_cases hi:i<n
  · rw[if_pos hi]
    have hlt:i<cs.length:=by omega
    rw[hcell i cs[i] (gC hlt),gC hlt]
  · rw[if_neg hi,gN_ (by omega)]
theorem AS {P:Program}:∀{fs:List Field} {off fin:Nat},oN P fs off=some fin->∀f∈fs,f.offset+P.cellsOf f.type<=fin
  | [],off,fin,h,f,hf=>by cases hf
  | g::fs,off,fin,h,f,hf=>by
    simp only[oN] at h;split at h
    · rename_i ho
      rcases mQ_.1 hf with rfl | hf
      · have:=(mF (P:=P) (cs:=List.replicate fin ()) h (by simp)).2
        omega
      · exact AS h f hf
    · cases h
theorem GA (hw:∃(r:Nat) (c:Array Value) (e:TypeId) (fr:Nat×Nat),w.heap[r]?=some (Obj.cells c e fr)) {fuel:Nat} (ih:∀t cs d p,DataW.trod enc P w 0 (fun _=>true) true fuel t cs=some (d,p)->Fx enc P w fuel t cs d) {t e:TypeId} {a:Addr} {len cap:Nat} {d:DataW H} {p:List MemPlace} (hu:P.underlying t=some (.slice e))
    (h:(if 0<=a.block/\len<=cap/\cap<=maxLen then
        ((List.range len).mapM fun i=>(w.cells? 0 (a.add (i*P.cellsOf e)) (P.cellsOf e)).bind (DataW.trod enc P w 0 (fun _=>true) true fuel e)).bind fun elems=>
          (if(fun _=>true) a.block=true then(List.range (cap-len)).mapM fun j=>(w.cells? 0 (a.add ((len+j)*P.cellsOf e)) (P.cellsOf e)).bind (DataW.trod enc P w 0 (fun _=>true) true fuel e) else some []).map fun rest=>
            (DataW.slice (elems.map (·.1)) (rest.map (·.1)),MemPlace.row a ((elems.length+rest.length)*P.cellsOf e)++(elems++rest).flatMap (·.2))
      else none)=some (d,p)) {ρ:cz} {σ:aD} (hi:Inv ρ σ w) (hr:jQ σ):
    ∃(ρ':cz) (σ':aD) (vs:List AV),Inv ρ' σ' w/\jQ σ'/\Bi ρ σ ρ' σ'/\db P σ' (fuel+1) t d vs/\cG ρ' vs [Value.slice (some a) len cap]:=by
  split at h
  · rename_i hc
    obtain⟨_,hlc,hcm⟩:=hc;obtain⟨elems,hE,h⟩:=Option.bind_eq_some_iff.1 h;obtain⟨rest,hR,h⟩:=oM_.1 h;rw[if_pos rfl] at hR;have hd:d= .slice (elems.map (·.1)) (rest.map (·.1)):=by have:=congrArg Prod.fst h;simpa using this.symm
    subst hd;have hel:elems.length=len:=by have:=(lk hE).1;simpa using this
    have hrl:rest.length=cap-len:=by have:=(lk hR).1;simpa using this
    by_cases hsz:1<=P.cellsOf e
    · obtain⟨css,hcs,hex⟩:=sx hE
      obtain⟨kcs,hcs'⟩:=lk hcs;have kcs:css.length=len:=by simpa using kcs
      have hadd:∀k,(a.add k).block=a.block/\(a.add k).off=a.off+k:=fun k=>by
        unfold Addr.add;split
        · rename_i h0;subst h0;exact⟨rfl,rfl⟩
        · exact⟨rfl,rfl⟩
      have hadd0:a.add 0=a:=by simp[Addr.add]
      by_cases h0:len=0/\cap=0
      · obtain⟨rfl,rfl⟩:=h0
        obtain⟨r,c,e',fr,hh⟩:=hw;have hobj:gn ρ ⟨r,0,c.size⟩ (.row [] e' true) (.cells c e' fr):=⟨c,fr,rfl,by simp,by simp,fun i v hv=>by simp at hv,fun h=>by cases h⟩;obtain⟨i1,r1,l1⟩:=hi.Jv hr hh hobj rfl;refine⟨_,_,[.slice σ.next 0 0 (.upto (P.cellsOf e))],i1,r1,l1,?_,cG.cons ?_ cG.nil⟩
        · unfold db
          rw[hu];dsimp only;intro _;have he0:elems= []:=eN_ hel;subst he0;exact⟨σ.next,_,[],e',rfl,by simp,PT.cY _ _ _,.inr rfl,by simp,fun i x hx=>by simp at hx⟩
        · simp only[VR]
          refine⟨_,cz.b0 _ _ _,.inr ?_⟩;simp
      · have hblk:∃(c:Array Value) (e':TypeId) (fr:Nat×Nat),w.heap[a.block]?=some (Obj.cells c e' fr)/\a.spot=none/\a.off<=c.size:=by
          have go:∀cs:List Value,w.cells? 0 a (P.cellsOf e)=some cs->∃(c:Array Value) (e':TypeId) (fr:Nat×Nat),w.heap[a.block]?=some (Obj.cells c e' fr)/\a.spot=none/\a.off<=c.size:=fun cs hk=>by
            obtain⟨c,e',fr,h1,h2,h3,_⟩:=uh hk hsz;exact⟨c,e',fr,h1,h2,by omega⟩
          by_cases hl:len=0
          · subst hl
            obtain⟨dss,hds,_⟩:=sx hR;obtain⟨k1,k2⟩:=lk hds;have k1:dss.length=cap-0:=by simpa using k1
            have hlt:0<dss.length:=by omega
            obtain⟨x,hx0,hx⟩:=k2 0 dss[0] (gC hlt);have:x=0:=by rw[List.getElem?_range (by omega)] at hx0;exact(Option.some.inj hx0).symm
            subst this;rw[nA_,Nat.zero_mul,hadd0] at hx;exact go _ hx
          · have hlt:0<css.length:=by omega
            obtain⟨x,hx0,hx⟩:=hcs' 0 css[0] (gC hlt);have:x=0:=by rw[List.getElem?_range (by omega)] at hx0;exact(Option.some.inj hx0).symm
            subst this;rw[Nat.zero_mul,hadd0] at hx;exact go _ hx
        obtain⟨c,e',fr,hh,hspot,aq⟩:=hblk
        have hpc:∀(i:Nat) (y:List Value),css[i]?=some y->a.off+(i+1)*P.cellsOf e<=c.size/\y=((c.toList.drop a.off).drop (i*P.cellsOf e)).take (P.cellsOf e):=fun i y hy=>by
          obtain⟨x,hx,hxy⟩:=hcs' i y hy;have hi':i<len:=by rw[<-kcs];exact(gA.1 hy).1
          have:x=i:=by rw[List.getElem?_range hi'] at hx;exact(Option.some.inj hx).symm
          subst this;obtain⟨c2,e2,fr2,h1,h2,h3,h4⟩:=uh hxy hsz;obtain⟨q1,q3⟩:=hadd (x*P.cellsOf e);rw[q1,hh] at h1;cases h1;rw[q3] at h3 h4;exact⟨by rw[Nat.succ_mul];omega,by rw[h4,List.drop_drop]⟩
        have hsize:a.off+len*P.cellsOf e<=c.size:=by
          by_cases hl:len=0
          · subst hl;omega
          · have hlt:len-1<css.length:=by omega
            have:=(hpc (len-1) css[len-1] (gC hlt)).1;rwa[show len-1+1=len by omega] at this
        have hcsl:∀(i:Nat) (y:List Value),css[i]?=some y->y.length=P.cellsOf e:=fun i y hy=>by
          obtain⟨k1,k2⟩:=hpc i y hy;rw[k2,lT_,lD_,lD_,Array.length_toList];rw[Nat.succ_mul] at k1;omega
        have hcseq:css=(List.range len).map fun k=>((c.toList.drop a.off).drop (k*P.cellsOf e)).take (P.cellsOf e):=by
          apply List.ext_getElem?;intro i;rw[gM_]
          by_cases hi':i<len
          · rw[List.getElem?_range hi']
            have hlt:i<css.length:=by omega
            rw[gC hlt];exact congrArg some (hpc i css[i] (gC hlt)).2
          · rw[gN_ (by omega),gN_ (by simp;omega)];rfl
        obtain⟨ρ₁,σ₁,vss,i1,r1,l1,n1,n2,hh'⟩:=pg ih (css.map fun cs=>(e,cs)) elems (by rw[mapM_map];exact hex) ρ σ hi hr;have n1:vss.length=css.length:=by simpa using n1
        have hV:cG ρ₁ vss.flatten css.flatten:=cG.flatten n1 fun i vs cs hv hc'=>by
          have hlt:i<elems.length:=by rw[hel,<-kcs];exact(gA.1 hc').1
          exact(hh' i (e,cs) elems[i] vs (by rw[gM_,hc'];rfl) (gC hlt) hv).2
        have hvl:∀vs∈vss,vs.length=P.cellsOf e:=fun vs hv=>by
          obtain⟨i,hi',rfl⟩:=List.getElem_of_mem hv;have hlt:i<css.length:=by omega
          have hlt2:i<elems.length:=by omega
          have:=(hh' i (e,css[i]) elems[i] vss[i] (by rw[gM_,gC hlt];rfl) (gC hlt2) (gC hi')).2.length;rw[<-this];exact hcsl i _ (gC hlt)
        have hfl:vss.flatten.length=len*P.cellsOf e:=by rw[om hvl,n1,kcs]
        rw[hcseq,chunks_flatten] at hV
        have hobj:gn ρ₁ ⟨a.block,a.off,c.size-a.off⟩ (.row vss.flatten e' true) (.cells c e' fr):=by
          refine⟨c,fr,rfl,by show c.size=a.off+(c.size-a.off);omega,by rw[hfl];show _<=c.size-a.off;omega,fun i v hv=>?_,fun h=>by cases h⟩;obtain⟨y,hy,hvy⟩:=hV.get hv;rw[List.getElem?_take] at hy;split at hy
          · rw[List.getElem?_drop,aT_] at hy
            exact⟨y,hy,hvy⟩
          · cases hy
        obtain⟨i2,r2,l2⟩:=i1.Jv r1 hh hobj rfl;refine⟨_,_,[.slice σ₁.next 0 len (.known cap)],i2,r2,l1.trans l2,?_,cG.cons ?_ cG.nil⟩
        · unfold db
          rw[hu];dsimp only;intro _;refine⟨σ₁.next,_,vss.flatten,e',by rw[lM_,hel],by rw[lM_,hel];omega,PT.cY _ _ _,.inl (by rw[lM_,lM_,hel,hrl];congr 1;omega),by rw[hfl,lM_,hel],fun i x hx=>?_⟩;rw[gM_] at hx;cases hy:elems[i]? with
          | none=>rw[hy] at hx;cases hx
          | some y=>
            rw[hy] at hx;cases hx;have hi':i<len:=by rw[<-hel];exact(gA.1 hy).1
            have hlt:i<css.length:=by omega
            have hlt2:i<vss.length:=by omega
            rw[mh hvl (gC hlt2)];exact db.mono l2.get _ _ _ _ (hh' i (e,css[i]) y vss[i] (by rw[gM_,gC hlt];rfl) hy (gC hlt2)).1
        · simp only[VR]
          refine⟨_,cz.b0 _ _ _,?_⟩;obtain⟨ab,ao,as⟩:=a;dsimp only at hspot⊢;subst hspot;rfl
    · refine⟨ρ,σ,[.any],hi,hr,Bi.refl _ _,?_,cG.cons (by simp only[VR]) cG.nil⟩
      unfold db;rw[hu];exact fun h'=>absurd h' hsz
  · cases h
theorem lay (hw:∃(r:Nat) (c:Array Value) (e:TypeId) (fr:Nat×Nat),w.heap[r]?=some (Obj.cells c e fr)):∀(fuel:Nat) (t:TypeId) (cs:List Value) (d:DataW H) (p:List MemPlace),DataW.trod enc P w 0 (fun _=>true) true fuel t cs=some (d,p)->Fx enc P w fuel t cs d
  | 0,t,cs,d,p,h=>by simp[DataW.trod] at h
  | fuel+1,t,cs,d,p,h=>by
    intro ρ σ hi hr;have ih:=lay hw fuel
    have other:(∀vs:List AV,db P σ (fuel+1) t d vs)->∃(ρ':cz) (σ':aD) (vs:List AV),Inv ρ' σ' w/\jQ σ'/\Bi ρ σ ρ' σ'/\db P σ' (fuel+1) t d vs/\cG ρ' vs cs:=fun hd=>
      ⟨ρ,σ,_,hi,hr,Bi.refl _ _,hd _,KZ cs⟩
    have one:∀{v:AV} {x:Value},cs= [x]->(∀ρ:cz,VR ρ v x)->db P σ (fuel+1) t d [v]->∃(ρ':cz) (σ':aD) (vs:List AV),Inv ρ' σ' w/\jQ σ'/\Bi ρ σ ρ' σ'/\db P σ' (fuel+1) t d vs/\cG ρ' vs cs:=fun {v x} hc hv hd=>by
      subst hc;exact⟨ρ,σ,[v],hi,hr,Bi.refl _ _,hd,cG.cons (hv ρ) cG.nil⟩
    cases hu:P.underlying t with
    | none=>exact other fun vs=>by unfold db;rw[hu];trivial
    | some u=>
      unfold DataW.trod at h;rw[hu] at h;cases u with
      | bool=>
        split at h<;>first | (rename_i he;cases he;done) | skip
        all_goals first
          | (rename_i b he
             cases h;exact one (v:=.bool b) rfl (fun ρ=>by simp only[VR]) (by unfold db;rw[hu]))
          | cases h
      | int k=>
        split at h<;>first | (rename_i he;cases he;done) | skip
        all_goals first
          | (rename_i k1 k2 n he
             cases he;split at h
             · rename_i hk
               obtain⟨hk1,hk2⟩:=hk;subst hk1;cases h;exact one (v:=.int k2 n) rfl (fun ρ=>by simp only[VR]) (by unfold db;rw[hu];exact⟨rfl,hk2,rfl⟩)
             · cases h)
          | cases h
      | string=>
        split at h<;>first | (rename_i he;cases he;done) | skip
        all_goals first
          | (rename_i s he
             split at h
             · rename_i hk
               cases h;exact one (v:=.str (s.data.toList.map UInt8.toNat)) rfl (fun ρ=>by simp only[VR];exact⟨s,rfl,rfl⟩) (by unfold db;rw[hu];exact⟨by simpa using hk,rfl⟩)
             · cases h)
          | cases h
      | struct fs=>
        dsimp only at h;split at h
        · rename_i hlen
          obtain⟨xs,hxs,hx⟩:=oM_.1 h;have hd:d= .agg (xs.map (·.1)):=by have:=congrArg Prod.fst hx;simpa using this.symm
          subst hd
          by_cases ht:oN P fs.toList 0=some (P.cellsOf t)
          · obtain⟨ρ₁,σ₁,vss,i1,r1,l1,n1,n2,hh⟩:=pg ih (fs.toList.map fun f=>(f.type,(cs.drop f.offset).take (P.cellsOf f.type))) xs (by rw[mapM_map];exact hxs) ρ σ hi hr
            have hflat:=(mF (cs:=cs) ht (by omega)).1;have hle:=AS ht;have n1:vss.length=fs.toList.length:=by simpa using n1
            have n2:xs.length=fs.toList.length:=by simpa using n2
            have hpc:∀(i:Nat) (f:Field) (vs:List AV),fs.toList[i]?=some f->vss[i]?=some vs->∃x,xs[i]?=some x/\db P σ₁ fuel f.type x.1 vs/\cG ρ₁ vs ((cs.drop f.offset).take (P.cellsOf f.type)):=fun i f vs hf hv=>by
              have hlt:i<xs.length:=by rw[n2];exact(gA.1 hf).1
              obtain⟨k1,k2⟩:=hh i (f.type,(cs.drop f.offset).take (P.cellsOf f.type)) xs[i] vs (by rw[gM_,hf];rfl) (gC hlt) hv;exact⟨xs[i],gC hlt,k1,k2⟩
            have hvl:∀(i:Nat) (f:Field) (vs:List AV),fs.toList[i]?=some f->vss[i]?=some vs->vs.length=P.cellsOf f.type:=fun i f vs hf hv=>by
              obtain⟨x,_,_,k⟩:=hpc i f vs hf hv;have h1:=k.length;have h2:=hle f (gB_ hf);rw[lT_,lD_] at h1;omega
            have hV:cG ρ₁ vss.flatten cs:=by
              have:=cG.flatten (ρ:=ρ₁) (vss:=vss) (css:=fs.toList.map fun f=>(cs.drop f.offset).take (P.cellsOf f.type)) (by simpa using n1) (fun i vs c hv hc=>by
                rw[gM_] at hc;cases hf:fs.toList[i]? with
                | none=>rw[hf] at hc;cases hc
                | some f=>
                  rw[hf] at hc;cases hc;obtain⟨x,_,_,k⟩:=hpc i f vs hf hv;exact k)
              rw[hflat,List.drop_zero,Nat.sub_zero,<-hlen,List.take_length] at this;exact this
            refine⟨ρ₁,σ₁,vss.flatten,i1,r1,l1,?_,hV⟩;unfold db;rw[hu];dsimp only;intro _;refine⟨by simpa using n2,by rw[<-hlen];exact hV.length.symm,fun i f x hf hx=>?_⟩;have hf':fs.toList[i]?=some f:=by rw[aT_];exact hf
            have hlt:i<vss.length:=by rw[n1];exact(gA.1 hf').1
            obtain⟨_,hp⟩:=tz ht hvl n1 hf' (gC hlt);obtain⟨y,hy,k,_⟩:=hpc i f vss[i] hf' (gC hlt);rw[gM_,hy] at hx;cases hx;rw[Nat.sub_zero] at hp;rw[hp];exact k
          · exact other fun vs=>by unfold db;rw[hu];exact fun h'=>absurd h' ht
        · cases h
      | array m e=>
        dsimp only at h;split at h
        · rename_i hlen
          obtain⟨xs,hxs,hx⟩:=oM_.1 h;have hd:d= .agg (xs.map (·.1)):=by have:=congrArg Prod.fst hx;simpa using this.symm
          subst hd
          by_cases ht:P.cellsOf t=m*P.cellsOf e
          · obtain⟨ρ₁,σ₁,vss,i1,r1,l1,n1,n2,hh⟩:=pg ih ((List.range m).map fun i=>(e,(cs.drop (i*P.cellsOf e)).take (P.cellsOf e))) xs (by rw[mapM_map];exact hxs) ρ σ hi hr
            have n1:vss.length=m:=by simpa using n1
            have n2:xs.length=m:=by simpa using n2
            have hpc:∀(i:Nat) (vs:List AV),vss[i]?=some vs->∃x,xs[i]?=some x/\db P σ₁ fuel e x.1 vs/\cG ρ₁ vs ((cs.drop (i*P.cellsOf e)).take (P.cellsOf e)):=fun i vs hv=>by
              have hi':i<m:=by rw[<-n1];exact(gA.1 hv).1
              have hlt:i<xs.length:=by omega
              obtain⟨k1,k2⟩:=hh i (e,(cs.drop (i*P.cellsOf e)).take (P.cellsOf e)) xs[i] vs (by rw[gM_,List.getElem?_range hi'];rfl) (gC hlt) hv;exact⟨xs[i],gC hlt,k1,k2⟩
            have hvl:∀vs∈vss,vs.length=P.cellsOf e:=fun vs hv=>by
              obtain⟨i,hi',rfl⟩:=List.getElem_of_mem hv;obtain⟨x,_,_,k⟩:=hpc i _ (gC hi');have h1:=k.length;rw[lT_,lD_,hlen,ht] at h1;have:(i+1)*P.cellsOf e<=m*P.cellsOf e:=nM_ _ (by omega);rw[Nat.succ_mul] at this;omega
            have hV:cG ρ₁ vss.flatten cs:=by
              have:=cG.flatten (ρ:=ρ₁) (vss:=vss) (css:=(List.range m).map fun i=>(cs.drop (i*P.cellsOf e)).take (P.cellsOf e)) (by simpa using n1) (fun i vs c hv hc=>by
                obtain⟨x,_,_,k⟩:=hpc i vs hv;have hi':i<m:=by rw[<-n1];exact(gA.1 hv).1
                rw[gM_,List.getElem?_range hi'] at hc;cases hc;exact k)
              rw[chunks_flatten,<-ht,<-hlen,List.take_length] at this;exact this
            refine⟨ρ₁,σ₁,vss.flatten,i1,r1,l1,?_,hV⟩;unfold db;rw[hu];dsimp only;intro _;refine⟨by simpa using n2,by rw[<-hlen];exact hV.length.symm,fun i x hx=>?_⟩
            have hi':i<vss.length:=by
              have:=(gA.1 hx).1;rw[lM_] at this;omega
            rw[mh hvl (gC hi')];obtain⟨y,hy,k,_⟩:=hpc i vss[i] (gC hi');rw[gM_,hy] at hx;cases hx;exact k
          · exact other fun vs=>by unfold db;rw[hu];exact fun h'=>absurd h' ht
        · cases h
      | slice e=>
        split at h<;>first | (rename_i he;cases he;done) | skip
        all_goals first
          | (rename_i he
             cases h;exact one (v:=.aK) rfl (fun ρ=>by simp only[VR]) (by unfold db;rw[hu]))
          | (rename_i e' a len cap he
             cases he;exact GA hw ih hu h hi hr)
          | cases h
      | _=>exact other fun vs=>by unfold db;rw[hu];trivial
end
section
variable {P:Program} {G:Cx} {ev:Operand->Option AV} {σ:aD}
def Ext (σ σ':aD):Prop:=σ.next<=σ'.next/\∀(b:Nat) (o:bQ),b<σ.next->σ.m.get b=some o->σ'.m.get b=some o
theorem Ext.refl (σ:aD):Ext σ σ:=⟨nR_ _,fun _ _ _ h=>h⟩
theorem Ext.trans {σ σ₁ σ₂:aD} (h:Ext σ σ₁) (h':Ext σ₁ σ₂):Ext σ σ₂:=⟨Nat.le_trans h.1 h'.1,fun b o hb ho=>h'.2 b o (Nat.lt_of_lt_of_le hb h.1) (h.2 b o hb ho)⟩
theorem wv (σ:aD) (o:bQ):(σ.alloc o).m.get σ.next=some o:=PT.cY _ _ _
theorem mi (σ:aD) (o:bQ) {b:Nat} (h:b<σ.next):(σ.alloc o).m.get b=σ.m.get b:=PT.cV _ _ _ _ (Nat.ne_of_lt h)
theorem yg (σ:aD) (b:Nat) (o:bQ):(σ.setObj b o).m.get b=some o:=PT.cY _ _ _
theorem mj (σ:aD) {b b':Nat} (o:bQ) (h:b'≠b):(σ.setObj b o).m.get b'=σ.m.get b':=PT.cV _ _ _ _ h
theorem Ext.alloc (σ:aD) (o:bQ):Ext σ (σ.alloc o):=⟨Nat.le_succ _,fun b o' hb h=>by rw[mi σ o hb];exact h⟩
theorem Ext.set {σ σ₁:aD} (h:Ext σ σ₁) {b:Nat} (hb:σ.next<=b) (o:bQ):Ext σ (σ₁.setObj b o):=⟨h.1,fun c o' hc ho=>by rw[mj σ₁ o (Nat.ne_of_lt (Nat.lt_of_lt_of_le hc hb))];exact h.2 c o' hc ho⟩
theorem an {x:Operand} {v:AV} (h:ev x=some v):dJ P G ev σ (.move x)= .val v σ:=by
 show(match ev x with | some v=>HR.val v σ | none=>_)=_;rw[h]
theorem ai {x:Operand} {v:AV} (h:ev x=some v):dJ P G ev σ (.assign x)= .val v σ:=by
 show(match ev x with | some v=>HR.val v σ | none=>_)=_;rw[h]
theorem bH {op:Op} {v:AV} (hk:kindOf P op= .pure) (h:dg P ev op=some v):dJ P G ev σ op= .val v σ:=by
 unfold dJ;rw[hk];dsimp only;rw[h]
theorem zb {op:Op} {v:AV} (hk:kindOf P op= .read) (h:fV P ev σ op=some v):dJ P G ev σ op= .val v σ:=by
 unfold dJ;rw[hk];dsimp only;rw[h]
theorem rY {op:Op} {ob:bQ} {mk:Mk} (hk:kindOf P op= .alloc) (h:eU P ev op=some (ob,mk)):dJ P G ev σ op= .val (mk.of σ.next) (σ.alloc ob):=by
 unfold dJ;rw[hk];dsimp only;rw[h]
theorem pD {op:Op} {r:HR} (hk:kindOf P op= .ja) (h:gQ P G.ov ev σ op=r):dJ P G ev σ op=r:=by
 unfold dJ;rw[hk];exact h
theorem ax {t:TypeId} {x:Operand} {b:Pos} {off:Nat} {cells:List AV} {e:Nat} {ro:Bool} {v:AV} (hx:ev x=some (.ptr b off)) (hb:σ.m.get b=some (.row cells e ro)) (ha:dE P t=some none) (hv:nth cells off=some v):dJ P G ev σ (.load t x)= .val v σ:=by
 refine zb rfl ?_;simp only[fV,hx,hb,ha,hv]
theorem bj {t:TypeId} {x:Operand} {b:Pos} {off n:Nat} {cells:List AV} {e:Nat} {ro:Bool} {vs:List AV} (hx:ev x=some (.ptr b off)) (hb:σ.m.get b=some (.row cells e ro)) (ha:dE P t=some (some n)) (hl:off+n<=cells.length) (hv:(cells.drop off).take n=vs):dJ P G ev σ (.load t x)= .val (.agg vs) σ:=by
 refine zb rfl ?_;have hl':Nat.ble (off+n) (cD cells)=true:=by rw[nE_,bz];exact hl
 simp only[fV,hx,hb,ha,hl',cond_true,dp,dO,hv]
theorem aw {s:TypeId} {x:Operand} {i:Nat} {b:Pos} {off k:Nat} (hx:ev x=some (.ptr b off)) (hk:oj P s i=some k):dJ P G ev σ (.fieldAddr s x i)= .val (.ptr b (off+k)) σ:=by
 refine bH rfl ?_;unfold oj at hk;simp only[dg,hx];cases hs:structOf P s with
 | none=>rw[hs] at hk;cases hk
 | some fs=>
  rw[hs] at hk;dsimp only at hk⊢;cases hf:fs[i]? with
  | none=>rw[hf] at hk;cases hk
  | some f=>
   rw[hf] at hk;dsimp only at hk⊢;rw[oo] at hk;cases hj:P.info? f.type with
   | none=>rw[hj] at hk;cases hk
   | some j=>
    rw[hj] at hk;dsimp only at hk⊢;rw[a0] at hk⊢;split at hk
    ·cases hk
    rename_i h0;cases hk;rw[if_neg h0]
theorem Jl {t e:TypeId} {j:TypeInfo} {x i:Operand} {b:Pos} {off len n:Nat} {c:rZ} {k:IntKind} (ht:P.underlying t=some (.slice e)) (hj:P.info? e=some j) (hx:ev x=some (.slice b off len c)) (hi:ev i=some (.int k (.ofNat n))) (hn:n<len):dJ P G ev σ (.indexAddr t x i)= .val (.ptr b (off+n*j.size)) σ:=by
 refine bH rfl ?_;have:Nat.ble (Nat.succ n) len=true:=by rw[nE_];exact hn
 simp only[dg,ht,hx,hi,hj,this,cond_true]
theorem LG {c:Call} {t e:TypeId} {x:Operand} {b:Pos} {off len:Nat} {cp:rZ} (hc:c.callee= .builtin .len) (ht:c.argTypes[0]?=some t) (ha:c.args.toList= [x]) (hu:P.underlying t=some (.slice e)) (hx:ev x=some (.slice b off len cp)):dJ P G ev σ (.call c)= .val (.int .i64 (.ofNat len)) σ:=by
 refine bH (by simp[kindOf,hc,isMap,ht,hu]) ?_;simp only[dg,hc,ht,ha,hx,uY,hu,Option.map_some]
theorem az {o:BinOp} {t r:TypeId} {x y:Operand} {a b v:AV} (hx:ev x=some a) (hy:ev y=some b) (h:tB P (xe x || xe y) o t a b=some v):dJ P G ev σ (.binOp o t x y r)= .val v σ:=by
 refine bH rfl ?_;simp only[dg,hx,hy,h]
theorem aA {c a b:Operand} {q:Bool} {v:AV} (hc:ev c=some (.bool q)) (h:(if q then ev a else ev b)=some v):dJ P G ev σ (.pick c a b)= .val v σ:=by
 refine bH rfl ?_;cases q with
 | true=>simp only[dg,hc];exact h
 | false=>simp only[dg,hc];exact h
theorem cN {t:TypeId} {x:Operand} {q:Bool} (hx:ev x=some (.bool q)):dJ P G ev σ (.unOp .not t x)= .val (.bool (!q)) σ:=by
 refine bH rfl ?_;simp only[dg,hx];cases q<;>rfl
theorem cK {e:TypeId} {x:Operand} {v:AV} {cs:List AV} (hx:ev x=some v) (hc:cC v=some cs):dJ P G ev σ (.box e x)= .val (.ptr σ.next 0) (σ.alloc (.row cs e false)):=by
 exact rY (op:=.box e x) (mk:=.ptr) (ob:=.row cs e false) rfl (by simp only[eU,hx,Option.bind_some,hc])
theorem dP {e:TypeId} {cs:List AV} (hz:(eR P e).bind cC=some cs) (hs:rM P e=false):dJ P G ev σ (.alloc e)= .val (.ptr σ.next 0) (σ.alloc (.row cs e false)):=by
 exact rY (op:=.alloc e) (mk:=.ptr) (ob:=.row cs e false) rfl (by simp only[eU,hz,hs,cond_false])
theorem Jm {t:TypeId} {x y:Operand} {b:Pos} {off:Nat} {v:AV} {cs cells:List AV} {e:Nat} {j:TypeInfo} (hx:ev x=some (.ptr b off)) (hy:ev y=some v) (hc:cC v=some cs) (hb:σ.m.get b=some (.row cells e false)) (hj:P.info? t=some j) (hl:cs.length=j.size) (hle:off+j.size<=cells.length) (hleaf:cj cs=true):
  dJ P G ev σ (.store t x y)= .skip (σ.setObj b (.row (dA cs cells off) e false)):=by
 refine pD rfl ?_
 have h1:(Nat.beq (cD cs) j.size && Nat.ble (off+j.size) (cD cells) && cj cs)=true:=by
  rw[bA_,bA_,Nat.beq_eq,nE_,bz,bz];exact⟨⟨hl,hle⟩,hleaf⟩
 simp only[gQ,hx,hy,vY,hc,hb,hj,h1,cond_true]
theorem aW {c:Call} {f:Operand} {g:Nat} {fi ca args:List AV} (hc:c.callee= .value f) (hf:ev f=some (.func g fi ca)) (ha:wW ev c.args.toList=some args) (hg:uV P g=true):dJ P G ev σ (.call c)= .enter g (fi++(args++ca)) σ:=by
 refine pD (by simp[kindOf,hc]) ?_;simp only[gQ,hc,hf,ha,zx,hg,cond_true,dw]
end
end Go.Ev
namespace Go.Ev
theorem DP {α:Type} (n:Nat) (t:jz α) (hn:n<16):(wb n).run t ((jl n).run t)=t:=by
 rcases EX hn with rfl | rfl | rfl | rfl | rfl | rfl | rfl | rfl | rfl | rfl | rfl | rfl | rfl | rfl | rfl | rfl<;>rfl
theorem G7 {α:Type} (t:iS α) (k:Nat) (hk:k<256):oC t k (jr t k)=t:=by
 unfold oC jr;rw[DP (Nat.mod k 16) _ (Nat.mod_lt _ (by decide))];exact DP (Nat.div k 16) _ (by show k/16<16;omega)
theorem PT.IX {α:Type} {t:PT α} {k:Nat} {o:Option α} (h:t.get k=o) (hk:k<256):t.put o k=t:=by
 subst h;rw[PT.pX _ hk];cases t with
 | mk s m l=>rw[PT.tq _ _ _ _ hk];exact congrArg (fun s=>PT.mk s m l) (G7 s k hk)
def G9:PT AV->List (Nat×AV)->PT AV
 | t,[]=>t
 | t,(k,v)::l=>G9 (t.put (some v) k) l
def JJ (t:PT AV):List (Nat×AV)->Prop
 | []=>True
 | (k,v)::l=>t.get k=some v/\JJ t l
theorem JJ.G9 {t:PT AV}:∀{l:List (Nat×AV)},JJ t l->(l.all fun x=>Nat.blt x.1 256)=true->G9 t l=t
 | [],_,_=>rfl
 | (k,v)::l,h,hl=>by
  rw[List.all_cons,bA_] at hl;have hk:k<256:=by have:=hl.1;exact Nat.le_of_ble_eq_true this
  show Go.Ev.G9 (t.put (some v) k) l=t;rw[PT.IX h.1 hk];exact h.2.G9 hl.2
section
variable [Env] {P:Program} {G:Cx} {ev:Operand->Option AV} {σ:aD}
theorem aO {id:Nat} {Q:Ex->PT AV->aD->Prop} {t:PT AV} (h:Q .normal t σ):qh id Q (.exit id) t σ:=by
 show(if id=id then _ else _);rw[if_pos rfl];exact h
theorem xU {id j:Nat} {Q:Ex->PT AV->aD->Prop} {t:PT AV} (hj:Nat.beq j id=false) (h:Q (.exit j) t σ):qh id Q (.exit j) t σ:=by
 show(if j=id then _ else _);rw[if_neg (fun e=>by rw[e,Nat.beq_refl] at hj;cases hj)];exact h
theorem aS {n i:Nat} {b:Code} {Q:Ex->PT AV->aD->Prop} {t:PT AV} (h:Q (.exit i) t σ):qa P G n b Q (.exit i) t σ:=h
theorem av {n:Nat} {b:Code} {Q:Ex->PT AV->aD->Prop} {t:PT AV} (h:Q .ret t σ):qa P G n b Q .ret t σ:=h
theorem fW {t e:TypeId} {m:Nat} {x i:Operand} {b:Pos} {off len n:Nat} {c:rZ} {k:IntKind} (ht:P.underlying t=some (.slice e)) (hj:(P.info? e).map (·.size)=some m) (hx:ev x=some (.slice b off len c)) (hi:ev i=some (.int k (.ofNat n))) (hn:n<len):dJ P G ev σ (.indexAddr t x i)= .val (.ptr b (off+n*m)) σ:=by
 cases hq:P.info? e with
 | none=>rw[hq] at hj;cases hj
 | some j=>
  rw[hq] at hj;cases hj;exact Jl ht hq hx hi hn
theorem HJ {t:TypeId} {m:Nat} {x y:Operand} {b:Pos} {off:Nat} {v:AV} {cs cells:List AV} {e:Nat} (hx:ev x=some (.ptr b off)) (hy:ev y=some v) (hc:cC v=some cs) (hb:σ.m.get b=some (.row cells e false)) (hj:(P.info? t).map (·.size)=some m) (hl:cs.length=m) (hle:off+m<=cells.length) (hleaf:cj cs=true):
  dJ P G ev σ (.store t x y)= .skip (σ.setObj b (.row (dA cs cells off) e false)):=by
 cases hq:P.info? t with
 | none=>rw[hq] at hj;cases hj
 | some j=>
  rw[hq] at hj;cases hj;exact Jm hx hy hc hb hq hl hle hleaf
end
end Go.Ev
end
