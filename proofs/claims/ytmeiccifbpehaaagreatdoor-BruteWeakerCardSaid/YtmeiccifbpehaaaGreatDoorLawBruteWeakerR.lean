/- Part of the proof: an evaluator of the model's code, rules for walks on it, walks. Without conditions. -/
import Derived.Test.YtmeiccifbpehaaaGreatDoorLawBruteWeakerH
set_option linter.unusedSectionVars false
set_option linter.unusedVariables false
set_option linter.unusedSimpArgs false
namespace Go.Proofs.YtmeiccifbpehaaaGreatDoor.lawBruteWeaker
open Go.ChangeShapes Go.WideShapes Go.ChangeAt Go.RowKit
set_option maxHeartbeats 8000000
set_option maxRecDepth 100000
theorem Ow:∀(j:Nat) t,(#[22,23]:Array TypeId)[j]? =some t->Tryz.pinned.checked.prog.wantsStandIn t=false
 | 0,_,ht=>by cases ht;kernel_rfl
 | 1,_,ht=>by cases ht;kernel_rfl
 | j+2,_,ht=>by simp at ht
theorem plain (f:FuncId) (fn:Func) (hf:Tryz.pinned.checked.prog.funcNamed Rows.bruteWeakerRow.func=some f) (hfn:Tryz.pinned.checked.prog.funcs[f]? =some fn):
  Rows.bruteWeakerCard.stood.looks=Tryz.pinned.checked.prog.looks []/\∀(j:Nat) t,fn.params[j]? =some t->Tryz.pinned.checked.prog.wantsStandIn t=false:=by
 obtain rfl:f=3:=Option.some.inj ((show Tryz.prog.funcNamed Rows.bruteWeakerRow.func=some 3 by kernel_rfl).symm.trans hf) |>.symm;obtain rfl:fn=Tryz.f3:=(Option.some.inj (Tryz.func3.symm.trans hfn)).symm;refine⟨by kernel_rfl,fun j t ht=>?_⟩;rw[Tryz.params3] at ht;exact Ow j t ht
theorem proved:Rows.BruteWeakerCardSaid:=
 Claim7.holds_tied_plain_at .later [] _ _ _ _ said (fun _ h=>by cases h) (by kernel_rfl) (fun _ h=>by cases h) bruteWeaker_row_tie rfl ⟨rfl,rfl⟩ (by kernel_rfl) rfl plain (by kernel_rfl)
end Go.Proofs.YtmeiccifbpehaaaGreatDoor.lawBruteWeaker
