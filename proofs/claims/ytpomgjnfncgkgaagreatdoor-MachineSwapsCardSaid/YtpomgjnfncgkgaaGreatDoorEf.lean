/- Part of the proof: an evaluator of the model's code, rules for walks on it, walks. Without conditions. -/
import Derived.Test.YtpomgjnfncgkgaaGreatDoorEe
import Derived.Test.YtpomgjnfncgkgaaGreatDoorEb
set_option linter.unusedSectionVars false
set_option linter.unusedVariables false
set_option linter.unusedSimpArgs false
namespace Go.Ev
variable [Env]
open Go.Proofs
set_option maxRecDepth 100000
set_option maxHeartbeats 8000000
theorem DL:Tryz.prog.follows .mixedOrders=true:=by kernel_rfl
def Bl (g:Nat):Bool:=bif Nat.beq g 106 then true else Nat.beq g 237
def Dm (f:Nat):Bool:=Nat.beq f 70
theorem Hw:mC Tryz.prog 106:=by
 obtain⟨j,hj⟩:∃j,Tryz.prog.info? 67=some j:=Option.isSome_iff_exists.1 (by kernel_rfl);exact .inl ⟨by kernel_rfl,Tryz.f106,74,4,67,j,Tryz.func106,by kernel_rfl,by kernel_rfl,by kernel_rfl,by kernel_rfl,by kernel_rfl,hj⟩
theorem HG:mC Tryz.prog 237:=.inr ⟨by kernel_rfl,Tryz.f237,Tryz.func237,by kernel_rfl,by kernel_rfl,by kernel_rfl,by kernel_rfl⟩
theorem HC (g:Nat) (h:Bl g=true):mC Tryz.prog g:=by
 unfold Bl at h;cases h1:Nat.beq g 106 with
 | true=>rw[Nat.eq_of_beq_eq_true h1];exact Hw
 | false=>
  rw[h1] at h;simp only[cond_false] at h;rw[Nat.eq_of_beq_eq_true h];exact HG
def qu:List AV:=[.bool false,.bool false,.bool false,.bool false,.int .i64 0,.bool true,.bool false,.bool false,.bool false,.int .i64 1,.bool true,.bool true,.bool true,.bool false,.int .i64 0,.bool false,.bool true,.bool true,.bool false,.int .i64 1,.bool true,.bool true,.bool true,.bool false,.int .i64 2,.bool true,.bool true,.bool true,.bool false,.int .i64 1,.bool true,.bool true,.bool true,.bool false,.int .i64 1,.bool false,.bool false,.bool true,.bool false,.int .i64 0,.bool false,.bool false,.bool false,.bool false,.int .i64 1,.bool false,.bool false,.bool false,.bool false,.int .i64 1,.bool false,.bool false,.bool false,.bool true,.int .i64 0,.bool false,.bool false,.bool false,.bool true,.int .i64 1,.bool false,.bool false,.bool false,.bool false,.int .i64 0,.bool false,.bool false,.bool false,.bool false,.int .i64 0]
def ew:List AV:=[.int .u64 1,.int .u64 10,.int .u64 100,.int .u64 1000,.int .u64 10000,.int .u64 100000,.int .u64 1000000,.int .u64 10000000,.int .u64 100000000,.int .u64 1000000000,.int .u64 10000000000,.int .u64 100000000000,.int .u64 1000000000000,.int .u64 10000000000000,.int .u64 100000000000000,.int .u64 1000000000000000,.int .u64 10000000000000000,.int .u64 100000000000000000,.int .u64 1000000000000000000,.int .u64 10000000000000000000]
def vX:List AV:=[.int .u8 0,.int .u8 1,.int .u8 28,.int .u8 2,.int .u8 29,.int .u8 14,.int .u8 24,.int .u8 3,.int .u8 30,.int .u8 22,.int .u8 20,.int .u8 15,.int .u8 25,.int .u8 17,.int .u8 4,.int .u8 8,.int .u8 31,.int .u8 27,.int .u8 13,.int .u8 23,.int .u8 21,.int .u8 19,.int .u8 16,.int .u8 7,.int .u8 26,.int .u8 12,.int .u8 18,.int .u8 6,.int .u8 11,.int .u8 5,.int .u8 10,.int .u8 9]
def v5:List AV:=[.int .u8 0,.int .u8 1,.int .u8 56,.int .u8 2,.int .u8 57,.int .u8 49,.int .u8 28,.int .u8 3,.int .u8 61,.int .u8 58,.int .u8 42,.int .u8 50,.int .u8 38,.int .u8 29,.int .u8 17,.int .u8 4,.int .u8 62,.int .u8 47,.int .u8 59,.int .u8 36,.int .u8 45,.int .u8 43,.int .u8 51,.int .u8 22,.int .u8 53,.int .u8 39,.int .u8 33,.int .u8 30,.int .u8 24,.int .u8 18,.int .u8 12,.int .u8 5,.int .u8 63,.int .u8 55,.int .u8 48,.int .u8 27,.int .u8 60,.int .u8 41,.int .u8 37,.int .u8 16,.int .u8 46,.int .u8 35,.int .u8 44,.int .u8 21,.int .u8 52,.int .u8 32,.int .u8 23,.int .u8 11,.int .u8 54,.int .u8 26,.int .u8 40,.int .u8 15,.int .u8 34,.int .u8 20,.int .u8 31,.int .u8 10,.int .u8 25,.int .u8 14,.int .u8 19,.int .u8 9,.int .u8 13,.int .u8 8,.int .u8 7,.int .u8 6]
def jI:List (Nat×List AV):=[(0,qu),(1,ew),(4,vX),(5,v5)]
theorem II:wu 6 jI=true:=by kernel_rfl
noncomputable def GL:Cx:=⟨6,Bl,Dm,fun _ _=>none,jI,[],fun _ _ _=>none,fun _ _ _=>none⟩
theorem Ii:xS Tryz.prog GL:=⟨HC,(fun f args v h=>by cases h),(fun e h=>by cases h),(fun f a s v h=>by cases h)⟩
theorem Gu (E:Nat→TypeId):nC (zg Tryz.prog GL 2000 18 [] (σG 6 jI E))=true:=by kernel_rfl
theorem FN:AW Tryz.prog 6 jI 18 [] (.bool true):=Aq (G:=GL) DL Ii II Gu
end Go.Ev
