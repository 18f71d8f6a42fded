/- Part of the proof: an evaluator of the model's code, rules for walks on it, walks. Without conditions. -/
import Derived.Test.YtpomgjnfncgkgaaGreatDoorEe
import Derived.Test.YtpomgjnfncgkgaaGreatDoorEb
set_option linter.unusedSectionVars false
set_option linter.unusedVariables false
set_option linter.unusedSimpArgs false
noncomputable section
namespace Go.Ev
variable [Env]
open Go.Proofs
set_option maxRecDepth 100000
set_option maxHeartbeats 8000000
theorem Is:Tryz.prog.follows .mixedOrders=true:=by kernel_rfl
def FN (g:Nat):Bool:=bif Nat.beq g 106 then true else Nat.beq g 237
def IX (f:Nat):Bool:=Nat.beq f 70
theorem OX:rJ Tryz.prog 106:=by
 obtain⟨j,hj⟩:∃j,Tryz.prog.info? 67=some j:=Option.isSome_iff_exists.1 U;exact .inl ⟨by kernel_rfl,Tryz.f106,74,4,67,j,Tryz.func106,by kernel_rfl,by kernel_rfl,by kernel_rfl,by kernel_rfl,by kernel_rfl,hj⟩
theorem OY:rJ Tryz.prog 237:=.inr ⟨by kernel_rfl,Tryz.f237,Tryz.func237,by kernel_rfl,by kernel_rfl,by kernel_rfl,by kernel_rfl⟩
theorem OZ (g:Nat) (h:FN g=true):rJ Tryz.prog g:=by
 unfold FN at h;cases h1:Nat.beq g 106 with
 | true=>rw[nB h1];exact OX
 | false=>
  rw[h1] at h;simp only[cond_false] at h;rw[nB h];exact OY
def tJ:List V:=[.bool false,.bool false,.bool false,.bool false,.int .i64 0,.bool true,.bool false,.bool false,.bool false,.int .i64 1,.bool true,.bool true,.bool true,.bool false,.int .i64 0,.bool false,.bool true,.bool true,.bool false,.int .i64 1,.bool true,.bool true,.bool true,.bool false,.int .i64 2,.bool true,.bool true,.bool true,.bool false,.int .i64 1,.bool true,.bool true,.bool true,.bool false,.int .i64 1,.bool false,.bool false,.bool true,.bool false,.int .i64 0,.bool false,.bool false,.bool false,.bool false,.int .i64 1,.bool false,.bool false,.bool false,.bool false,.int .i64 1,.bool false,.bool false,.bool false,.bool true,.int .i64 0,.bool false,.bool false,.bool false,.bool true,.int .i64 1,.bool false,.bool false,.bool false,.bool false,.int .i64 0,.bool false,.bool false,.bool false,.bool false,.int .i64 0]
def fJ:List V:=[.int .u64 1,.int .u64 10,.int .u64 100,.int .u64 1000,.int .u64 10000,.int .u64 100000,.int .u64 1000000,.int .u64 10000000,.int .u64 100000000,.int .u64 1000000000,.int .u64 10000000000,.int .u64 100000000000,.int .u64 1000000000000,.int .u64 10000000000000,.int .u64 100000000000000,.int .u64 1000000000000000,.int .u64 10000000000000000,.int .u64 100000000000000000,.int .u64 1000000000000000000,.int .u64 10000000000000000000]
def zL:List V:=[.int .u8 0,.int .u8 1,.int .u8 28,.int .u8 2,.int .u8 29,.int .u8 14,.int .u8 24,.int .u8 3,.int .u8 30,.int .u8 22,.int .u8 20,.int .u8 15,.int .u8 25,.int .u8 17,.int .u8 4,.int .u8 8,.int .u8 31,.int .u8 27,.int .u8 13,.int .u8 23,.int .u8 21,.int .u8 19,.int .u8 16,.int .u8 7,.int .u8 26,.int .u8 12,.int .u8 18,.int .u8 6,.int .u8 11,.int .u8 5,.int .u8 10,.int .u8 9]
def zM:List V:=[.int .u8 0,.int .u8 1,.int .u8 56,.int .u8 2,.int .u8 57,.int .u8 49,.int .u8 28,.int .u8 3,.int .u8 61,.int .u8 58,.int .u8 42,.int .u8 50,.int .u8 38,.int .u8 29,.int .u8 17,.int .u8 4,.int .u8 62,.int .u8 47,.int .u8 59,.int .u8 36,.int .u8 45,.int .u8 43,.int .u8 51,.int .u8 22,.int .u8 53,.int .u8 39,.int .u8 33,.int .u8 30,.int .u8 24,.int .u8 18,.int .u8 12,.int .u8 5,.int .u8 63,.int .u8 55,.int .u8 48,.int .u8 27,.int .u8 60,.int .u8 41,.int .u8 37,.int .u8 16,.int .u8 46,.int .u8 35,.int .u8 44,.int .u8 21,.int .u8 52,.int .u8 32,.int .u8 23,.int .u8 11,.int .u8 54,.int .u8 26,.int .u8 40,.int .u8 15,.int .u8 34,.int .u8 20,.int .u8 31,.int .u8 10,.int .u8 25,.int .u8 14,.int .u8 19,.int .u8 9,.int .u8 13,.int .u8 8,.int .u8 7,.int .u8 6]
def mj:List (Nat×List V):=[(0,tJ),(1,fJ),(4,zL),(5,zM)]
theorem Q4:AZ 6 mj=true:=by kernel_rfl
def GL:Cx:=⟨6,FN,IX,fun _ _=>none,mj,[],fun _ _ _=>none,fun _ _ _=>none⟩
theorem Qc:Bi Tryz.prog GL:=⟨OZ,(fun f args v h=>by cases h),(fun e h=>by cases h),(fun f a s v h=>by cases h)⟩
theorem NI (E:Nat->TypeId):qa (BS Tryz.prog GL 2000 18 [] (σG 6 mj E))=true:=by kernel_rfl
theorem Lr:Ff Tryz.prog 6 mj 18 [] (.bool true):=Ef (G:=GL) Is Qc Q4 NI
end Go.Ev
end
