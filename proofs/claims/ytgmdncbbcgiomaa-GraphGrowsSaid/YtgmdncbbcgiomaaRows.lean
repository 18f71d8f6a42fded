/-
  NARROWER THAN 'FOR EVERY INPUT', by the rows' own cells (each row's printed sentence says how): SymmGroup: loops · SymmPerms: loops.
  DERIVED. THE GIVEN ROWS OF THIS SEAT. 4 by the template 'for every input the law returns true; each argument reads behind the call as it read before'; 0 by the template 'total and deterministic' (their statements: YtgmdncbbcgiomaaTotals.lean).
  GIVEN WITH THE SEED: the statements are not yours to turn. If you find one false, say at which input.
  Laid BY PROGRAM, IN A SANDBOX (cutbox-rows.mjs): the forced cells as the released guide's own fill.sh prints them over the translation 1fd350390a8ffe26… (all of the seat's roots in one cut). By AI agents, Wed Nov 11 2026. No macro, syntax, notation, axiom, sorry.
-/
import Derived.Test.YtgmdncbbcgiomaaChecked
import GoSem.Claim
import GoSem.ClaimJoined
import GoSem.ClaimMapViews
import Derived.JoinedTies
import Derived.KernelRfl
namespace Go.Proofs.Ytgmdncbbcgiomaa
/- THE CELL 'sum', in the pinned program and in every row, IS THE sha256 OF THE DUMP (.gsa) THAT YtgmdncbbcgiomaaProg.lean LOADS. Nothing in Lean hashes anything: it is a label: what it is worth is what the hold of that sum in a sandbox is worth. -/
noncomputable def Try.pinned : Pinned := { name := "ytgmdncbbcgiomaa", sum := "1fd350390a8ffe26071b62d3b86fa83f59d016ed6662478c8b08320f4e60d24f", checked := Try.checked }
namespace Rows
def none {H : Type} : Left H := { results := [], args := [] }

/-- 'cantileverlaw25.SymmGroup': WHATEVER THE INPUT: true; the input reads as it did. -/
def symmGroupSpec : ChangeSpec := { name := "symmGroup", fn := fun _ => fun
  | [d] => { results := [.lit (.bool true)], args := [d] }
  | _ => none }
def symmGroupRow : OpenClaim := { program := "ytgmdncbbcgiomaa", sum := "1fd350390a8ffe26071b62d3b86fa83f59d016ed6662478c8b08320f4e60d24f", func := "cantilever/cantileverlaw25.SymmGroup", spec := "symmGroup", unfollowed := true, recurses := true, loops := true, plainKeys := false, apart := false }
def SymmGroupSaid : Prop := symmGroupRow.holds Try.pinned (OpenSpec.ofChange symmGroupSpec)

/-- ITS FALSE NEIGHBOUR: 'it returns false'. Refute it at one input. -/
def symmGroupWrong : ChangeSpec := { name := "symmGroup", fn := fun _ => fun
  | [d] => { results := [.lit (.bool false)], args := [d] }
  | _ => none }
def SymmGroupWrongFalsely : Prop := symmGroupRow.holds Try.pinned (OpenSpec.ofChange symmGroupWrong)

/-- 'cantileverlaw25.SymmPerms': WHATEVER THE INPUT: true; the input reads as it did. -/
def symmPermsSpec : ChangeSpec := { name := "symmPerms", fn := fun _ => fun
  | [d] => { results := [.lit (.bool true)], args := [d] }
  | _ => none }
def symmPermsRow : OpenClaim := { program := "ytgmdncbbcgiomaa", sum := "1fd350390a8ffe26071b62d3b86fa83f59d016ed6662478c8b08320f4e60d24f", func := "cantilever/cantileverlaw25.SymmPerms", spec := "symmPerms", unfollowed := true, recurses := true, loops := true, plainKeys := false, apart := false }
def SymmPermsSaid : Prop := symmPermsRow.holds Try.pinned (OpenSpec.ofChange symmPermsSpec)

/-- ITS FALSE NEIGHBOUR: 'it returns false'. Refute it at one input. -/
def symmPermsWrong : ChangeSpec := { name := "symmPerms", fn := fun _ => fun
  | [d] => { results := [.lit (.bool false)], args := [d] }
  | _ => none }
def SymmPermsWrongFalsely : Prop := symmPermsRow.holds Try.pinned (OpenSpec.ofChange symmPermsWrong)

/-- 'cantileverlaw14.GraphCommutes': WHATEVER THE INPUT: true; the input reads as it did. -/
def graphCommutesSpec : ChangeSpec := { name := "graphCommutes", fn := fun _ => fun
  | [d1, d2, d3, d4, d5, d6, d7, d8, d9] => { results := [.lit (.bool true)], args := [d1, d2, d3, d4, d5, d6, d7, d8, d9] }
  | _ => none }
def graphCommutesRow : OpenClaim := { program := "ytgmdncbbcgiomaa", sum := "1fd350390a8ffe26071b62d3b86fa83f59d016ed6662478c8b08320f4e60d24f", func := "cantilever/cantileverlaw14.GraphCommutes", spec := "graphCommutes", inPlace := ["slices.overlaps[cantilever/api.Id]"], unfollowed := true, recurses := true, plainKeys := false, apart := false }
def GraphCommutesSaid : Prop := graphCommutesRow.holds Try.pinned (OpenSpec.ofChange graphCommutesSpec)

/-- ITS FALSE NEIGHBOUR: 'it returns false'. Refute it at one input. -/
def graphCommutesWrong : ChangeSpec := { name := "graphCommutes", fn := fun _ => fun
  | [d1, d2, d3, d4, d5, d6, d7, d8, d9] => { results := [.lit (.bool false)], args := [d1, d2, d3, d4, d5, d6, d7, d8, d9] }
  | _ => none }
def GraphCommutesWrongFalsely : Prop := graphCommutesRow.holds Try.pinned (OpenSpec.ofChange graphCommutesWrong)

/-- 'cantileverlaw14.GraphGrows': WHATEVER THE INPUT: true; the input reads as it did. -/
def graphGrowsSpec : ChangeSpec := { name := "graphGrows", fn := fun _ => fun
  | [d1, d2, d3, d4, d5, d6, d7] => { results := [.lit (.bool true)], args := [d1, d2, d3, d4, d5, d6, d7] }
  | _ => none }
def graphGrowsRow : OpenClaim := { program := "ytgmdncbbcgiomaa", sum := "1fd350390a8ffe26071b62d3b86fa83f59d016ed6662478c8b08320f4e60d24f", func := "cantilever/cantileverlaw14.GraphGrows", spec := "graphGrows", inPlace := ["slices.overlaps[cantilever/api.Id]"], unfollowed := true, recurses := true, plainKeys := false, apart := false }
def GraphGrowsSaid : Prop := graphGrowsRow.holds Try.pinned (OpenSpec.ofChange graphGrowsSpec)

/-- ITS FALSE NEIGHBOUR: 'it returns false'. Refute it at one input. -/
def graphGrowsWrong : ChangeSpec := { name := "graphGrows", fn := fun _ => fun
  | [d1, d2, d3, d4, d5, d6, d7] => { results := [.lit (.bool false)], args := [d1, d2, d3, d4, d5, d6, d7] }
  | _ => none }
def GraphGrowsWrongFalsely : Prop := graphGrowsRow.holds Try.pinned (OpenSpec.ofChange graphGrowsWrong)

/- THE SECOND FORM. 'bulk': how many values and letters a reading holds, each counted each time it is reached (what is shared counts as often as it is met; a slice's spare places count too). A statement '..UptoSaid' is the law's where the arguments, and the package variables that the reading takes, are together of bulk at most 1048576: NARROWER than '..Said'. Prove '..Said' where nothing that the law and all that it calls make is longer than what came in: it says more and counts as full. Else prove '..UptoSaid'. A law counts once. -/
mutual
def uptoBulk {H : Type} : DataW H → Nat
  | .lit (.string bytes) => bytes.length + 1
  | .lit _ => 1
  | .nil => 1
  | .ptr d => uptoBulk d + 1
  | .slice elems spare => uptoBulkAll elems + uptoBulkAll spare + 1
  | .agg parts => uptoBulkAll parts + 1
  | .iface _ d => uptoBulk d + 1
  | .map entries => uptoBulkEntries entries + 1
  | .held _ => 1
def uptoBulkAll {H : Type} : List (DataW H) → Nat
  | [] => 0
  | d :: r => uptoBulk d + uptoBulkAll r
def uptoBulkEntries {H : Type} : List (Lit × DataW H) → Nat
  | [] => 0
  | x :: r => uptoBulkEntry x + uptoBulkEntries r
def uptoBulkEntry {H : Type} : Lit × DataW H → Nat
  | (.string bytes, d) => bytes.length + uptoBulk d + 1
  | (_, d) => uptoBulk d + 1
 end
def uptoSmall : (H : Type) → List (DataW H) → Bool := fun _ ds => decide (uptoBulkAll ds ≤ 1048576)
def OpenSpec.upto (s : _root_.Go.ChangeSpec) : _root_.Go.OpenSpec := { _root_.Go.OpenSpec.ofChange s with cond := some uptoSmall }

/-- 'cantileverlaw25.SymmGroup', WHERE WHAT IT READS IS OF BULK AT MOST 1048576: true; the input reads as it did. -/
def symmGroupUptoRow : OpenClaim := { program := "ytgmdncbbcgiomaa", sum := "1fd350390a8ffe26071b62d3b86fa83f59d016ed6662478c8b08320f4e60d24f", func := "cantilever/cantileverlaw25.SymmGroup", spec := "symmGroup", unfollowed := true, recurses := true, loops := true, plainKeys := false, apart := false, narrowed := true }
def SymmGroupUptoSaid : Prop := symmGroupUptoRow.holds Try.pinned (OpenSpec.upto symmGroupSpec)

/-- 'cantileverlaw25.SymmPerms', WHERE WHAT IT READS IS OF BULK AT MOST 1048576: true; the input reads as it did. -/
def symmPermsUptoRow : OpenClaim := { program := "ytgmdncbbcgiomaa", sum := "1fd350390a8ffe26071b62d3b86fa83f59d016ed6662478c8b08320f4e60d24f", func := "cantilever/cantileverlaw25.SymmPerms", spec := "symmPerms", unfollowed := true, recurses := true, loops := true, plainKeys := false, apart := false, narrowed := true }
def SymmPermsUptoSaid : Prop := symmPermsUptoRow.holds Try.pinned (OpenSpec.upto symmPermsSpec)

/-- 'cantileverlaw14.GraphCommutes', WHERE WHAT IT READS IS OF BULK AT MOST 1048576: true; the input reads as it did. -/
def graphCommutesUptoRow : OpenClaim := { program := "ytgmdncbbcgiomaa", sum := "1fd350390a8ffe26071b62d3b86fa83f59d016ed6662478c8b08320f4e60d24f", func := "cantilever/cantileverlaw14.GraphCommutes", spec := "graphCommutes", inPlace := ["slices.overlaps[cantilever/api.Id]"], unfollowed := true, recurses := true, plainKeys := false, apart := false, narrowed := true }
def GraphCommutesUptoSaid : Prop := graphCommutesUptoRow.holds Try.pinned (OpenSpec.upto graphCommutesSpec)

/-- 'cantileverlaw14.GraphGrows', WHERE WHAT IT READS IS OF BULK AT MOST 1048576: true; the input reads as it did. -/
def graphGrowsUptoRow : OpenClaim := { program := "ytgmdncbbcgiomaa", sum := "1fd350390a8ffe26071b62d3b86fa83f59d016ed6662478c8b08320f4e60d24f", func := "cantilever/cantileverlaw14.GraphGrows", spec := "graphGrows", inPlace := ["slices.overlaps[cantilever/api.Id]"], unfollowed := true, recurses := true, plainKeys := false, apart := false, narrowed := true }
def GraphGrowsUptoSaid : Prop := graphGrowsUptoRow.holds Try.pinned (OpenSpec.upto graphGrowsSpec)

end Rows
end Go.Proofs.Ytgmdncbbcgiomaa
