/- Part of the proof: rules and walks. No conditions. -/
import Derived.Test.YtjnonkhfgnihfaaGreatDoorEf
import Derived.Test.YtjnonkhfgnihfaaGreatDoorEb
set_option linter.unusedSectionVars false
set_option linter.unusedVariables false
set_option linter.unusedSimpArgs false
noncomputable section
namespace Go.Ev
variable [Env]
open Go.Proofs
set_option maxRecDepth 100000
set_option maxHeartbeats 8000000
theorem LC:Tryz.prog.follows .mixedOrders=true:=by kernel_rfl
def Mm (g:Nat):Bool:=Nat.beq g 223
def Ml (f:Nat):Bool:=Nat.beq f 146
theorem TJ:vI Tryz.prog 223:=by
 obtain⟨j,hj⟩:∃j,Tryz.prog.info? 68=some j:=ze_.1 Y;exact .inl ⟨by kernel_rfl,Tryz.f223,84,4,68,j,Tryz.func223,by kernel_rfl,by kernel_rfl,by kernel_rfl,by kernel_rfl,by kernel_rfl,hj⟩
theorem TK (g:Nat) (h:Mm g=true):vI Tryz.prog g:=by rw[nB h];exact TJ
def vO:List U:=[.bool false,.bool false,.bool false,.bool false,.int .i64 0,.bool true,.bool false,.bool false,.bool false,.int .i64 1,.bool true,.bool true,.bool true,.bool false,.int .i64 0,.bool false,.bool true,.bool true,.bool false,.int .i64 1,.bool true,.bool true,.bool true,.bool false,.int .i64 2,.bool true,.bool true,.bool true,.bool false,.int .i64 1,.bool true,.bool true,.bool true,.bool false,.int .i64 1,.bool false,.bool false,.bool true,.bool false,.int .i64 0,.bool false,.bool false,.bool false,.bool false,.int .i64 1,.bool false,.bool false,.bool false,.bool false,.int .i64 1,.bool false,.bool false,.bool false,.bool true,.int .i64 0,.bool false,.bool false,.bool false,.bool true,.int .i64 1,.bool false,.bool false,.bool false,.bool false,.int .i64 0,.bool false,.bool false,.bool false,.bool false,.int .i64 0]
def gd:List U:=[.int .u8 0,.int .u8 1,.int .u8 56,.int .u8 2,.int .u8 57,.int .u8 49,.int .u8 28,.int .u8 3,.int .u8 61,.int .u8 58,.int .u8 42,.int .u8 50,.int .u8 38,.int .u8 29,.int .u8 17,.int .u8 4,.int .u8 62,.int .u8 47,.int .u8 59,.int .u8 36,.int .u8 45,.int .u8 43,.int .u8 51,.int .u8 22,.int .u8 53,.int .u8 39,.int .u8 33,.int .u8 30,.int .u8 24,.int .u8 18,.int .u8 12,.int .u8 5,.int .u8 63,.int .u8 55,.int .u8 48,.int .u8 27,.int .u8 60,.int .u8 41,.int .u8 37,.int .u8 16,.int .u8 46,.int .u8 35,.int .u8 44,.int .u8 21,.int .u8 52,.int .u8 32,.int .u8 23,.int .u8 11,.int .u8 54,.int .u8 26,.int .u8 40,.int .u8 15,.int .u8 34,.int .u8 20,.int .u8 31,.int .u8 10,.int .u8 25,.int .u8 14,.int .u8 19,.int .u8 9,.int .u8 13,.int .u8 8,.int .u8 7,.int .u8 6]
def Cn:List U:=[.int .u64 1,.int .u64 10,.int .u64 100,.int .u64 1000,.int .u64 10000,.int .u64 100000,.int .u64 1000000,.int .u64 10000000,.int .u64 100000000,.int .u64 1000000000,.int .u64 10000000000,.int .u64 100000000000,.int .u64 1000000000000,.int .u64 10000000000000,.int .u64 100000000000000,.int .u64 1000000000000000,.int .u64 10000000000000000,.int .u64 100000000000000000,.int .u64 1000000000000000000,.int .u64 10000000000000000000]
def Co:List U:=[.int .u8 0,.int .u8 1,.int .u8 28,.int .u8 2,.int .u8 29,.int .u8 14,.int .u8 24,.int .u8 3,.int .u8 30,.int .u8 22,.int .u8 20,.int .u8 15,.int .u8 25,.int .u8 17,.int .u8 4,.int .u8 8,.int .u8 31,.int .u8 27,.int .u8 13,.int .u8 23,.int .u8 21,.int .u8 19,.int .u8 16,.int .u8 7,.int .u8 26,.int .u8 12,.int .u8 18,.int .u8 6,.int .u8 11,.int .u8 5,.int .u8 10,.int .u8 9]
def nk:List (Nat×List U):=[(0,vO),(1,gd),(4,Cn),(5,Co)]
theorem Wf:Dx 6 nk=true:=by kernel_rfl
def GL:Cx:=⟨6,Mm,Ml,fun _ _=>none,nk,[],fun _ _ _=>none,fun _ _ _=>none⟩
theorem Vi:DB Tryz.prog GL:=⟨TK,(fun f args v h=>by cases h),(fun e h=>by cases h),(fun f a s v h=>by cases h)⟩
theorem Uk (E:Nat->y_):rE (Ek Tryz.prog GL 2000 7 [] (σG 6 nk E))=true:=by kernel_rfl
theorem R9:HO Tryz.prog 6 nk 7 [] (.bool true):=GP (G:=GL) LC Vi Wf Uk
end Go.Ev
end
