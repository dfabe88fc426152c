/-
  No cell of these rows narrows 'for every input' (looked for: loops, veiled, ifaces, maps, wideKeys, modest, calm, conditions, laid).
  DERIVED. THE GIVEN ROWS OF THIS SEAT. 9 by the template 'for every input the law returns true; each argument reads behind the call as it read before'; 0 by the template 'total and deterministic' (their statements: YtaadbpibmlnncaaTotals.lean).
  GIVEN WITH THE SEED: the statements are not yours to turn. If you find one false, say at which input.
  Laid BY PROGRAM, IN A SANDBOX (cutbox-rows.mjs): the forced cells as the released guide's own fill.sh prints them over the translation 4ac086183575d04b… (all of the seat's roots in one cut). By AI agents, Wed Nov 11 2026. No macro, syntax, notation, axiom, sorry.
-/
import Derived.Test.YtaadbpibmlnncaaChecked
import GoSem.Claim
import GoSem.ClaimJoined
import GoSem.ClaimMapViews
import Derived.JoinedTies
import Derived.KernelRfl
namespace Go.Proofs.Ytaadbpibmlnncaa
/- THE CELL 'sum', in the pinned program and in every row, IS THE sha256 OF THE DUMP (.gsa) THAT YtaadbpibmlnncaaProg.lean LOADS. Nothing in Lean hashes anything: it is a label: what it is worth is what the hold of that sum in a sandbox is worth. -/
noncomputable def Try.pinned : Pinned := { name := "ytaadbpibmlnncaa", sum := "4ac086183575d04bea4061145826f9e57791723fdde3f41041983f4bc11b336d", checked := Try.checked }
namespace Rows
def none {H : Type} : Left H := { results := [], args := [] }

/-- 'laws.FnExactAreaCount': WHATEVER THE INPUT: true; the input reads as it did. -/
def fnExactAreaCountSpec : ChangeSpec := { name := "fnExactAreaCount", fn := fun _ => fun
  | [d] => { results := [.lit (.bool true)], args := [d] }
  | _ => none }
def fnExactAreaCountRow : OpenClaim := { program := "ytaadbpibmlnncaa", sum := "4ac086183575d04bea4061145826f9e57791723fdde3f41041983f4bc11b336d", func := "loop.example/g01023/laws.FnExactAreaCount", spec := "fnExactAreaCount", unfollowed := true, recurses := true, apart := false }
def FnExactAreaCountSaid : Prop := fnExactAreaCountRow.holds Try.pinned (OpenSpec.ofChange fnExactAreaCountSpec)

/-- ITS FALSE NEIGHBOUR: 'it returns false'. Refute it at one input. -/
def fnExactAreaCountWrong : ChangeSpec := { name := "fnExactAreaCount", fn := fun _ => fun
  | [d] => { results := [.lit (.bool false)], args := [d] }
  | _ => none }
def FnExactAreaCountWrongFalsely : Prop := fnExactAreaCountRow.holds Try.pinned (OpenSpec.ofChange fnExactAreaCountWrong)

/-- 'laws.FnExactAreasOf': WHATEVER THE INPUT: true; the input reads as it did. -/
def fnExactAreasOfSpec : ChangeSpec := { name := "fnExactAreasOf", fn := fun _ => fun
  | [d] => { results := [.lit (.bool true)], args := [d] }
  | _ => none }
def fnExactAreasOfRow : OpenClaim := { program := "ytaadbpibmlnncaa", sum := "4ac086183575d04bea4061145826f9e57791723fdde3f41041983f4bc11b336d", func := "loop.example/g01023/laws.FnExactAreasOf", spec := "fnExactAreasOf", unfollowed := true, recurses := true, apart := false }
def FnExactAreasOfSaid : Prop := fnExactAreasOfRow.holds Try.pinned (OpenSpec.ofChange fnExactAreasOfSpec)

/-- ITS FALSE NEIGHBOUR: 'it returns false'. Refute it at one input. -/
def fnExactAreasOfWrong : ChangeSpec := { name := "fnExactAreasOf", fn := fun _ => fun
  | [d] => { results := [.lit (.bool false)], args := [d] }
  | _ => none }
def FnExactAreasOfWrongFalsely : Prop := fnExactAreasOfRow.holds Try.pinned (OpenSpec.ofChange fnExactAreasOfWrong)

/-- 'laws.FnExactGreatestArea': WHATEVER THE INPUT: true; the input reads as it did. -/
def fnExactGreatestAreaSpec : ChangeSpec := { name := "fnExactGreatestArea", fn := fun _ => fun
  | [d] => { results := [.lit (.bool true)], args := [d] }
  | _ => none }
def fnExactGreatestAreaRow : OpenClaim := { program := "ytaadbpibmlnncaa", sum := "4ac086183575d04bea4061145826f9e57791723fdde3f41041983f4bc11b336d", func := "loop.example/g01023/laws.FnExactGreatestArea", spec := "fnExactGreatestArea", unfollowed := true, recurses := true, apart := false }
def FnExactGreatestAreaSaid : Prop := fnExactGreatestAreaRow.holds Try.pinned (OpenSpec.ofChange fnExactGreatestAreaSpec)

/-- ITS FALSE NEIGHBOUR: 'it returns false'. Refute it at one input. -/
def fnExactGreatestAreaWrong : ChangeSpec := { name := "fnExactGreatestArea", fn := fun _ => fun
  | [d] => { results := [.lit (.bool false)], args := [d] }
  | _ => none }
def FnExactGreatestAreaWrongFalsely : Prop := fnExactGreatestAreaRow.holds Try.pinned (OpenSpec.ofChange fnExactGreatestAreaWrong)

/-- 'laws.FnExactAreaSizes': WHATEVER THE INPUT: true; the input reads as it did. -/
def fnExactAreaSizesSpec : ChangeSpec := { name := "fnExactAreaSizes", fn := fun _ => fun
  | [d1, d2] => { results := [.lit (.bool true)], args := [d1, d2] }
  | _ => none }
def fnExactAreaSizesRow : OpenClaim := { program := "ytaadbpibmlnncaa", sum := "4ac086183575d04bea4061145826f9e57791723fdde3f41041983f4bc11b336d", func := "loop.example/g01023/laws.FnExactAreaSizes", spec := "fnExactAreaSizes", unfollowed := true, recurses := true, apart := false }
def FnExactAreaSizesSaid : Prop := fnExactAreaSizesRow.holds Try.pinned (OpenSpec.ofChange fnExactAreaSizesSpec)

/-- ITS FALSE NEIGHBOUR: 'it returns false'. Refute it at one input. -/
def fnExactAreaSizesWrong : ChangeSpec := { name := "fnExactAreaSizes", fn := fun _ => fun
  | [d1, d2] => { results := [.lit (.bool false)], args := [d1, d2] }
  | _ => none }
def FnExactAreaSizesWrongFalsely : Prop := fnExactAreaSizesRow.holds Try.pinned (OpenSpec.ofChange fnExactAreaSizesWrong)

/-- 'laws.FnExactIsAssignment': WHATEVER THE INPUT: true; the input reads as it did. -/
def fnExactIsAssignmentSpec : ChangeSpec := { name := "fnExactIsAssignment", fn := fun _ => fun
  | [d1, d2, d3, d4] => { results := [.lit (.bool true)], args := [d1, d2, d3, d4] }
  | _ => none }
def fnExactIsAssignmentRow : OpenClaim := { program := "ytaadbpibmlnncaa", sum := "4ac086183575d04bea4061145826f9e57791723fdde3f41041983f4bc11b336d", func := "loop.example/g01023/laws.FnExactIsAssignment", spec := "fnExactIsAssignment", unfollowed := true, recurses := true, apart := false }
def FnExactIsAssignmentSaid : Prop := fnExactIsAssignmentRow.holds Try.pinned (OpenSpec.ofChange fnExactIsAssignmentSpec)

/-- ITS FALSE NEIGHBOUR: 'it returns false'. Refute it at one input. -/
def fnExactIsAssignmentWrong : ChangeSpec := { name := "fnExactIsAssignment", fn := fun _ => fun
  | [d1, d2, d3, d4] => { results := [.lit (.bool false)], args := [d1, d2, d3, d4] }
  | _ => none }
def FnExactIsAssignmentWrongFalsely : Prop := fnExactIsAssignmentRow.holds Try.pinned (OpenSpec.ofChange fnExactIsAssignmentWrong)

/-- 'laws.FnExactFewestLots': WHATEVER THE INPUT: true; the input reads as it did. -/
def fnExactFewestLotsSpec : ChangeSpec := { name := "fnExactFewestLots", fn := fun _ => fun
  | [d1, d2, d3] => { results := [.lit (.bool true)], args := [d1, d2, d3] }
  | _ => none }
def fnExactFewestLotsRow : OpenClaim := { program := "ytaadbpibmlnncaa", sum := "4ac086183575d04bea4061145826f9e57791723fdde3f41041983f4bc11b336d", func := "loop.example/g01023/laws.FnExactFewestLots", spec := "fnExactFewestLots", unfollowed := true, recurses := true, apart := false }
def FnExactFewestLotsSaid : Prop := fnExactFewestLotsRow.holds Try.pinned (OpenSpec.ofChange fnExactFewestLotsSpec)

/-- ITS FALSE NEIGHBOUR: 'it returns false'. Refute it at one input. -/
def fnExactFewestLotsWrong : ChangeSpec := { name := "fnExactFewestLots", fn := fun _ => fun
  | [d1, d2, d3] => { results := [.lit (.bool false)], args := [d1, d2, d3] }
  | _ => none }
def FnExactFewestLotsWrongFalsely : Prop := fnExactFewestLotsRow.holds Try.pinned (OpenSpec.ofChange fnExactFewestLotsWrong)

/-- 'laws.FnExactFirstAssignment': WHATEVER THE INPUT: true; the input reads as it did. -/
def fnExactFirstAssignmentSpec : ChangeSpec := { name := "fnExactFirstAssignment", fn := fun _ => fun
  | [d1, d2, d3] => { results := [.lit (.bool true)], args := [d1, d2, d3] }
  | _ => none }
def fnExactFirstAssignmentRow : OpenClaim := { program := "ytaadbpibmlnncaa", sum := "4ac086183575d04bea4061145826f9e57791723fdde3f41041983f4bc11b336d", func := "loop.example/g01023/laws.FnExactFirstAssignment", spec := "fnExactFirstAssignment", unfollowed := true, recurses := true, apart := false }
def FnExactFirstAssignmentSaid : Prop := fnExactFirstAssignmentRow.holds Try.pinned (OpenSpec.ofChange fnExactFirstAssignmentSpec)

/-- ITS FALSE NEIGHBOUR: 'it returns false'. Refute it at one input. -/
def fnExactFirstAssignmentWrong : ChangeSpec := { name := "fnExactFirstAssignment", fn := fun _ => fun
  | [d1, d2, d3] => { results := [.lit (.bool false)], args := [d1, d2, d3] }
  | _ => none }
def FnExactFirstAssignmentWrongFalsely : Prop := fnExactFirstAssignmentRow.holds Try.pinned (OpenSpec.ofChange fnExactFirstAssignmentWrong)

/-- 'laws.FnExactAreaNeighbors': WHATEVER THE INPUT: true; the input reads as it did. -/
def fnExactAreaNeighborsSpec : ChangeSpec := { name := "fnExactAreaNeighbors", fn := fun _ => fun
  | [d1, d2] => { results := [.lit (.bool true)], args := [d1, d2] }
  | _ => none }
def fnExactAreaNeighborsRow : OpenClaim := { program := "ytaadbpibmlnncaa", sum := "4ac086183575d04bea4061145826f9e57791723fdde3f41041983f4bc11b336d", func := "loop.example/g01023/laws.FnExactAreaNeighbors", spec := "fnExactAreaNeighbors", unfollowed := true, recurses := true, apart := false }
def FnExactAreaNeighborsSaid : Prop := fnExactAreaNeighborsRow.holds Try.pinned (OpenSpec.ofChange fnExactAreaNeighborsSpec)

/-- ITS FALSE NEIGHBOUR: 'it returns false'. Refute it at one input. -/
def fnExactAreaNeighborsWrong : ChangeSpec := { name := "fnExactAreaNeighbors", fn := fun _ => fun
  | [d1, d2] => { results := [.lit (.bool false)], args := [d1, d2] }
  | _ => none }
def FnExactAreaNeighborsWrongFalsely : Prop := fnExactAreaNeighborsRow.holds Try.pinned (OpenSpec.ofChange fnExactAreaNeighborsWrong)

/-- 'laws.FnLots': WHATEVER THE INPUT: true; the input reads as it did. -/
def fnLotsSpec : ChangeSpec := { name := "fnLots", fn := fun _ => fun
  | [d] => { results := [.lit (.bool true)], args := [d] }
  | _ => none }
def fnLotsRow : OpenClaim := { program := "ytaadbpibmlnncaa", sum := "4ac086183575d04bea4061145826f9e57791723fdde3f41041983f4bc11b336d", func := "loop.example/g01023/laws.FnLots", spec := "fnLots", unfollowed := true, recurses := true, apart := false }
def FnLotsSaid : Prop := fnLotsRow.holds Try.pinned (OpenSpec.ofChange fnLotsSpec)

/-- ITS FALSE NEIGHBOUR: 'it returns false'. Refute it at one input. -/
def fnLotsWrong : ChangeSpec := { name := "fnLots", fn := fun _ => fun
  | [d] => { results := [.lit (.bool false)], args := [d] }
  | _ => none }
def FnLotsWrongFalsely : Prop := fnLotsRow.holds Try.pinned (OpenSpec.ofChange fnLotsWrong)

/- THE SECOND FORM. 'bulk': how many values and letters a reading holds, each counted each time it is reached (what is shared counts as often as it is met; a slice's spare places count too). A statement '..UptoSaid' is the law's where the arguments, and the package variables that the reading takes, are together of bulk at most 1048576: NARROWER than '..Said'. Prove '..Said' where nothing that the law and all that it calls make is longer than what came in: it says more and counts as full. Else prove '..UptoSaid'. A law counts once. -/
mutual
def uptoBulk {H : Type} : DataW H → Nat
  | .lit (.string bytes) => bytes.length + 1
  | .lit _ => 1
  | .nil => 1
  | .ptr d => uptoBulk d + 1
  | .slice elems spare => uptoBulkAll elems + uptoBulkAll spare + 1
  | .agg parts => uptoBulkAll parts + 1
  | .iface _ d => uptoBulk d + 1
  | .map entries => uptoBulkEntries entries + 1
  | .held _ => 1
def uptoBulkAll {H : Type} : List (DataW H) → Nat
  | [] => 0
  | d :: r => uptoBulk d + uptoBulkAll r
def uptoBulkEntries {H : Type} : List (Lit × DataW H) → Nat
  | [] => 0
  | x :: r => uptoBulkEntry x + uptoBulkEntries r
def uptoBulkEntry {H : Type} : Lit × DataW H → Nat
  | (.string bytes, d) => bytes.length + uptoBulk d + 1
  | (_, d) => uptoBulk d + 1
 end
def uptoSmall : (H : Type) → List (DataW H) → Bool := fun _ ds => decide (uptoBulkAll ds ≤ 1048576)
def OpenSpec.upto (s : _root_.Go.ChangeSpec) : _root_.Go.OpenSpec := { _root_.Go.OpenSpec.ofChange s with cond := some uptoSmall }

/-- 'laws.FnExactAreaCount', WHERE WHAT IT READS IS OF BULK AT MOST 1048576: true; the input reads as it did. -/
def fnExactAreaCountUptoRow : OpenClaim := { program := "ytaadbpibmlnncaa", sum := "4ac086183575d04bea4061145826f9e57791723fdde3f41041983f4bc11b336d", func := "loop.example/g01023/laws.FnExactAreaCount", spec := "fnExactAreaCount", unfollowed := true, recurses := true, apart := false, narrowed := true }
def FnExactAreaCountUptoSaid : Prop := fnExactAreaCountUptoRow.holds Try.pinned (OpenSpec.upto fnExactAreaCountSpec)

/-- 'laws.FnExactAreasOf', WHERE WHAT IT READS IS OF BULK AT MOST 1048576: true; the input reads as it did. -/
def fnExactAreasOfUptoRow : OpenClaim := { program := "ytaadbpibmlnncaa", sum := "4ac086183575d04bea4061145826f9e57791723fdde3f41041983f4bc11b336d", func := "loop.example/g01023/laws.FnExactAreasOf", spec := "fnExactAreasOf", unfollowed := true, recurses := true, apart := false, narrowed := true }
def FnExactAreasOfUptoSaid : Prop := fnExactAreasOfUptoRow.holds Try.pinned (OpenSpec.upto fnExactAreasOfSpec)

/-- 'laws.FnExactGreatestArea', WHERE WHAT IT READS IS OF BULK AT MOST 1048576: true; the input reads as it did. -/
def fnExactGreatestAreaUptoRow : OpenClaim := { program := "ytaadbpibmlnncaa", sum := "4ac086183575d04bea4061145826f9e57791723fdde3f41041983f4bc11b336d", func := "loop.example/g01023/laws.FnExactGreatestArea", spec := "fnExactGreatestArea", unfollowed := true, recurses := true, apart := false, narrowed := true }
def FnExactGreatestAreaUptoSaid : Prop := fnExactGreatestAreaUptoRow.holds Try.pinned (OpenSpec.upto fnExactGreatestAreaSpec)

/-- 'laws.FnExactAreaSizes', WHERE WHAT IT READS IS OF BULK AT MOST 1048576: true; the input reads as it did. -/
def fnExactAreaSizesUptoRow : OpenClaim := { program := "ytaadbpibmlnncaa", sum := "4ac086183575d04bea4061145826f9e57791723fdde3f41041983f4bc11b336d", func := "loop.example/g01023/laws.FnExactAreaSizes", spec := "fnExactAreaSizes", unfollowed := true, recurses := true, apart := false, narrowed := true }
def FnExactAreaSizesUptoSaid : Prop := fnExactAreaSizesUptoRow.holds Try.pinned (OpenSpec.upto fnExactAreaSizesSpec)

/-- 'laws.FnExactIsAssignment', WHERE WHAT IT READS IS OF BULK AT MOST 1048576: true; the input reads as it did. -/
def fnExactIsAssignmentUptoRow : OpenClaim := { program := "ytaadbpibmlnncaa", sum := "4ac086183575d04bea4061145826f9e57791723fdde3f41041983f4bc11b336d", func := "loop.example/g01023/laws.FnExactIsAssignment", spec := "fnExactIsAssignment", unfollowed := true, recurses := true, apart := false, narrowed := true }
def FnExactIsAssignmentUptoSaid : Prop := fnExactIsAssignmentUptoRow.holds Try.pinned (OpenSpec.upto fnExactIsAssignmentSpec)

/-- 'laws.FnExactFewestLots', WHERE WHAT IT READS IS OF BULK AT MOST 1048576: true; the input reads as it did. -/
def fnExactFewestLotsUptoRow : OpenClaim := { program := "ytaadbpibmlnncaa", sum := "4ac086183575d04bea4061145826f9e57791723fdde3f41041983f4bc11b336d", func := "loop.example/g01023/laws.FnExactFewestLots", spec := "fnExactFewestLots", unfollowed := true, recurses := true, apart := false, narrowed := true }
def FnExactFewestLotsUptoSaid : Prop := fnExactFewestLotsUptoRow.holds Try.pinned (OpenSpec.upto fnExactFewestLotsSpec)

/-- 'laws.FnExactFirstAssignment', WHERE WHAT IT READS IS OF BULK AT MOST 1048576: true; the input reads as it did. -/
def fnExactFirstAssignmentUptoRow : OpenClaim := { program := "ytaadbpibmlnncaa", sum := "4ac086183575d04bea4061145826f9e57791723fdde3f41041983f4bc11b336d", func := "loop.example/g01023/laws.FnExactFirstAssignment", spec := "fnExactFirstAssignment", unfollowed := true, recurses := true, apart := false, narrowed := true }
def FnExactFirstAssignmentUptoSaid : Prop := fnExactFirstAssignmentUptoRow.holds Try.pinned (OpenSpec.upto fnExactFirstAssignmentSpec)

/-- 'laws.FnExactAreaNeighbors', WHERE WHAT IT READS IS OF BULK AT MOST 1048576: true; the input reads as it did. -/
def fnExactAreaNeighborsUptoRow : OpenClaim := { program := "ytaadbpibmlnncaa", sum := "4ac086183575d04bea4061145826f9e57791723fdde3f41041983f4bc11b336d", func := "loop.example/g01023/laws.FnExactAreaNeighbors", spec := "fnExactAreaNeighbors", unfollowed := true, recurses := true, apart := false, narrowed := true }
def FnExactAreaNeighborsUptoSaid : Prop := fnExactAreaNeighborsUptoRow.holds Try.pinned (OpenSpec.upto fnExactAreaNeighborsSpec)

/-- 'laws.FnLots', WHERE WHAT IT READS IS OF BULK AT MOST 1048576: true; the input reads as it did. -/
def fnLotsUptoRow : OpenClaim := { program := "ytaadbpibmlnncaa", sum := "4ac086183575d04bea4061145826f9e57791723fdde3f41041983f4bc11b336d", func := "loop.example/g01023/laws.FnLots", spec := "fnLots", unfollowed := true, recurses := true, apart := false, narrowed := true }
def FnLotsUptoSaid : Prop := fnLotsUptoRow.holds Try.pinned (OpenSpec.upto fnLotsSpec)

end Rows
end Go.Proofs.Ytaadbpibmlnncaa
