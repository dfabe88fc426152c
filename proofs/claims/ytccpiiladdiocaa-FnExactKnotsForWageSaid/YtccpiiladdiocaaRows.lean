/-
  No cell of these rows narrows 'for every input' (looked for: loops, veiled, ifaces, maps, wideKeys, modest, calm, conditions, laid).
  DERIVED. THE GIVEN ROWS OF THIS SEAT. 7 by the template 'for every input the law returns true; each argument reads behind the call as it read before'; 0 by the template 'total and deterministic' (their statements: YtccpiiladdiocaaTotals.lean).
  GIVEN WITH THE SEED: the statements are not yours to turn. If you find one false, say at which input.
  Laid BY PROGRAM, IN A SANDBOX (cutbox-rows.mjs): the forced cells as the released guide's own fill.sh prints them over the translation 6dcf328ff656d8ef… (all of the seat's roots in one cut). By AI agents, Wed Nov 11 2026. No macro, syntax, notation, axiom, sorry.
-/
import Derived.Test.YtccpiiladdiocaaChecked
import GoSem.Claim
import GoSem.ClaimJoined
import GoSem.ClaimMapViews
import Derived.JoinedTies
import Derived.KernelRfl
namespace Go.Proofs.Ytccpiiladdiocaa
/- THE CELL 'sum', in the pinned program and in every row, IS THE sha256 OF THE DUMP (.gsa) THAT YtccpiiladdiocaaProg.lean LOADS. Nothing in Lean hashes anything: it is a label: what it is worth is what the hold of that sum in a sandbox is worth. -/
noncomputable def Try.pinned : Pinned := { name := "ytccpiiladdiocaa", sum := "6dcf328ff656d8efe3f493abc45b8c1ec6d8cbe908d21758579d0c5822dff39e", checked := Try.checked }
namespace Rows
def none {H : Type} : Left H := { results := [], args := [] }

/-- 'laws.FnExactAreRates': WHATEVER THE INPUT: true; the input reads as it did. -/
def fnExactAreRatesSpec : ChangeSpec := { name := "fnExactAreRates", fn := fun _ => fun
  | [d] => { results := [.lit (.bool true)], args := [d] }
  | _ => none }
def fnExactAreRatesRow : OpenClaim := { program := "ytccpiiladdiocaa", sum := "6dcf328ff656d8efe3f493abc45b8c1ec6d8cbe908d21758579d0c5822dff39e", func := "loop.example/g01023/laws.FnExactAreRates", spec := "fnExactAreRates", unfollowed := true, recurses := true, apart := false }
def FnExactAreRatesSaid : Prop := fnExactAreRatesRow.holds Try.pinned (OpenSpec.ofChange fnExactAreRatesSpec)

/-- ITS FALSE NEIGHBOUR: 'it returns false'. Refute it at one input. -/
def fnExactAreRatesWrong : ChangeSpec := { name := "fnExactAreRates", fn := fun _ => fun
  | [d] => { results := [.lit (.bool false)], args := [d] }
  | _ => none }
def FnExactAreRatesWrongFalsely : Prop := fnExactAreRatesRow.holds Try.pinned (OpenSpec.ofChange fnExactAreRatesWrong)

/-- 'laws.FnExactKnotsForWage': WHATEVER THE INPUT: true; the input reads as it did. -/
def fnExactKnotsForWageSpec : ChangeSpec := { name := "fnExactKnotsForWage", fn := fun _ => fun
  | [d1, d2] => { results := [.lit (.bool true)], args := [d1, d2] }
  | _ => none }
def fnExactKnotsForWageRow : OpenClaim := { program := "ytccpiiladdiocaa", sum := "6dcf328ff656d8efe3f493abc45b8c1ec6d8cbe908d21758579d0c5822dff39e", func := "loop.example/g01023/laws.FnExactKnotsForWage", spec := "fnExactKnotsForWage", unfollowed := true, recurses := true, apart := false }
def FnExactKnotsForWageSaid : Prop := fnExactKnotsForWageRow.holds Try.pinned (OpenSpec.ofChange fnExactKnotsForWageSpec)

/-- ITS FALSE NEIGHBOUR: 'it returns false'. Refute it at one input. -/
def fnExactKnotsForWageWrong : ChangeSpec := { name := "fnExactKnotsForWage", fn := fun _ => fun
  | [d1, d2] => { results := [.lit (.bool false)], args := [d1, d2] }
  | _ => none }
def FnExactKnotsForWageWrongFalsely : Prop := fnExactKnotsForWageRow.holds Try.pinned (OpenSpec.ofChange fnExactKnotsForWageWrong)

/-- 'laws.FnExactWageOf': WHATEVER THE INPUT: true; the input reads as it did. -/
def fnExactWageOfSpec : ChangeSpec := { name := "fnExactWageOf", fn := fun _ => fun
  | [d1, d2] => { results := [.lit (.bool true)], args := [d1, d2] }
  | _ => none }
def fnExactWageOfRow : OpenClaim := { program := "ytccpiiladdiocaa", sum := "6dcf328ff656d8efe3f493abc45b8c1ec6d8cbe908d21758579d0c5822dff39e", func := "loop.example/g01023/laws.FnExactWageOf", spec := "fnExactWageOf", unfollowed := true, recurses := true, apart := false }
def FnExactWageOfSaid : Prop := fnExactWageOfRow.holds Try.pinned (OpenSpec.ofChange fnExactWageOfSpec)

/-- ITS FALSE NEIGHBOUR: 'it returns false'. Refute it at one input. -/
def fnExactWageOfWrong : ChangeSpec := { name := "fnExactWageOf", fn := fun _ => fun
  | [d1, d2] => { results := [.lit (.bool false)], args := [d1, d2] }
  | _ => none }
def FnExactWageOfWrongFalsely : Prop := fnExactWageOfRow.holds Try.pinned (OpenSpec.ofChange fnExactWageOfWrong)

/-- 'laws.FnExactAreSheets': WHATEVER THE INPUT: true; the input reads as it did. -/
def fnExactAreSheetsSpec : ChangeSpec := { name := "fnExactAreSheets", fn := fun _ => fun
  | [d] => { results := [.lit (.bool true)], args := [d] }
  | _ => none }
def fnExactAreSheetsRow : OpenClaim := { program := "ytccpiiladdiocaa", sum := "6dcf328ff656d8efe3f493abc45b8c1ec6d8cbe908d21758579d0c5822dff39e", func := "loop.example/g01023/laws.FnExactAreSheets", spec := "fnExactAreSheets", unfollowed := true, recurses := true, apart := false }
def FnExactAreSheetsSaid : Prop := fnExactAreSheetsRow.holds Try.pinned (OpenSpec.ofChange fnExactAreSheetsSpec)

/-- ITS FALSE NEIGHBOUR: 'it returns false'. Refute it at one input. -/
def fnExactAreSheetsWrong : ChangeSpec := { name := "fnExactAreSheets", fn := fun _ => fun
  | [d] => { results := [.lit (.bool false)], args := [d] }
  | _ => none }
def FnExactAreSheetsWrongFalsely : Prop := fnExactAreSheetsRow.holds Try.pinned (OpenSpec.ofChange fnExactAreSheetsWrong)

/-- 'laws.FnExactBestDayOf': WHATEVER THE INPUT: true; the input reads as it did. -/
def fnExactBestDayOfSpec : ChangeSpec := { name := "fnExactBestDayOf", fn := fun _ => fun
  | [d1, d2] => { results := [.lit (.bool true)], args := [d1, d2] }
  | _ => none }
def fnExactBestDayOfRow : OpenClaim := { program := "ytccpiiladdiocaa", sum := "6dcf328ff656d8efe3f493abc45b8c1ec6d8cbe908d21758579d0c5822dff39e", func := "loop.example/g01023/laws.FnExactBestDayOf", spec := "fnExactBestDayOf", unfollowed := true, recurses := true, apart := false }
def FnExactBestDayOfSaid : Prop := fnExactBestDayOfRow.holds Try.pinned (OpenSpec.ofChange fnExactBestDayOfSpec)

/-- ITS FALSE NEIGHBOUR: 'it returns false'. Refute it at one input. -/
def fnExactBestDayOfWrong : ChangeSpec := { name := "fnExactBestDayOf", fn := fun _ => fun
  | [d1, d2] => { results := [.lit (.bool false)], args := [d1, d2] }
  | _ => none }
def FnExactBestDayOfWrongFalsely : Prop := fnExactBestDayOfRow.holds Try.pinned (OpenSpec.ofChange fnExactBestDayOfWrong)

/-- 'laws.FnExactWagesBetween': WHATEVER THE INPUT: true; the input reads as it did. -/
def fnExactWagesBetweenSpec : ChangeSpec := { name := "fnExactWagesBetween", fn := fun _ => fun
  | [d1, d2, d3, d4, d5] => { results := [.lit (.bool true)], args := [d1, d2, d3, d4, d5] }
  | _ => none }
def fnExactWagesBetweenRow : OpenClaim := { program := "ytccpiiladdiocaa", sum := "6dcf328ff656d8efe3f493abc45b8c1ec6d8cbe908d21758579d0c5822dff39e", func := "loop.example/g01023/laws.FnExactWagesBetween", spec := "fnExactWagesBetween", unfollowed := true, recurses := true, apart := false }
def FnExactWagesBetweenSaid : Prop := fnExactWagesBetweenRow.holds Try.pinned (OpenSpec.ofChange fnExactWagesBetweenSpec)

/-- ITS FALSE NEIGHBOUR: 'it returns false'. Refute it at one input. -/
def fnExactWagesBetweenWrong : ChangeSpec := { name := "fnExactWagesBetween", fn := fun _ => fun
  | [d1, d2, d3, d4, d5] => { results := [.lit (.bool false)], args := [d1, d2, d3, d4, d5] }
  | _ => none }
def FnExactWagesBetweenWrongFalsely : Prop := fnExactWagesBetweenRow.holds Try.pinned (OpenSpec.ofChange fnExactWagesBetweenWrong)

/-- 'laws.FnExactMissedBonus': WHATEVER THE INPUT: true; the input reads as it did. -/
def fnExactMissedBonusSpec : ChangeSpec := { name := "fnExactMissedBonus", fn := fun _ => fun
  | [d] => { results := [.lit (.bool true)], args := [d] }
  | _ => none }
def fnExactMissedBonusRow : OpenClaim := { program := "ytccpiiladdiocaa", sum := "6dcf328ff656d8efe3f493abc45b8c1ec6d8cbe908d21758579d0c5822dff39e", func := "loop.example/g01023/laws.FnExactMissedBonus", spec := "fnExactMissedBonus", unfollowed := true, recurses := true, apart := false }
def FnExactMissedBonusSaid : Prop := fnExactMissedBonusRow.holds Try.pinned (OpenSpec.ofChange fnExactMissedBonusSpec)

/-- ITS FALSE NEIGHBOUR: 'it returns false'. Refute it at one input. -/
def fnExactMissedBonusWrong : ChangeSpec := { name := "fnExactMissedBonus", fn := fun _ => fun
  | [d] => { results := [.lit (.bool false)], args := [d] }
  | _ => none }
def FnExactMissedBonusWrongFalsely : Prop := fnExactMissedBonusRow.holds Try.pinned (OpenSpec.ofChange fnExactMissedBonusWrong)

/- THE SECOND FORM. 'bulk': how many values and letters a reading holds, each counted each time it is reached (what is shared counts as often as it is met; a slice's spare places count too). A statement '..UptoSaid' is the law's where the arguments, and the package variables that the reading takes, are together of bulk at most 1048576: NARROWER than '..Said'. Prove '..Said' where nothing that the law and all that it calls make is longer than what came in: it says more and counts as full. Else prove '..UptoSaid'. A law counts once. -/
mutual
def uptoBulk {H : Type} : DataW H → Nat
  | .lit (.string bytes) => bytes.length + 1
  | .lit _ => 1
  | .nil => 1
  | .ptr d => uptoBulk d + 1
  | .slice elems spare => uptoBulkAll elems + uptoBulkAll spare + 1
  | .agg parts => uptoBulkAll parts + 1
  | .iface _ d => uptoBulk d + 1
  | .map entries => uptoBulkEntries entries + 1
  | .held _ => 1
def uptoBulkAll {H : Type} : List (DataW H) → Nat
  | [] => 0
  | d :: r => uptoBulk d + uptoBulkAll r
def uptoBulkEntries {H : Type} : List (Lit × DataW H) → Nat
  | [] => 0
  | x :: r => uptoBulkEntry x + uptoBulkEntries r
def uptoBulkEntry {H : Type} : Lit × DataW H → Nat
  | (.string bytes, d) => bytes.length + uptoBulk d + 1
  | (_, d) => uptoBulk d + 1
 end
def uptoSmall : (H : Type) → List (DataW H) → Bool := fun _ ds => decide (uptoBulkAll ds ≤ 1048576)
def OpenSpec.upto (s : _root_.Go.ChangeSpec) : _root_.Go.OpenSpec := { _root_.Go.OpenSpec.ofChange s with cond := some uptoSmall }

/-- 'laws.FnExactAreRates', WHERE WHAT IT READS IS OF BULK AT MOST 1048576: true; the input reads as it did. -/
def fnExactAreRatesUptoRow : OpenClaim := { program := "ytccpiiladdiocaa", sum := "6dcf328ff656d8efe3f493abc45b8c1ec6d8cbe908d21758579d0c5822dff39e", func := "loop.example/g01023/laws.FnExactAreRates", spec := "fnExactAreRates", unfollowed := true, recurses := true, apart := false, narrowed := true }
def FnExactAreRatesUptoSaid : Prop := fnExactAreRatesUptoRow.holds Try.pinned (OpenSpec.upto fnExactAreRatesSpec)

/-- 'laws.FnExactKnotsForWage', WHERE WHAT IT READS IS OF BULK AT MOST 1048576: true; the input reads as it did. -/
def fnExactKnotsForWageUptoRow : OpenClaim := { program := "ytccpiiladdiocaa", sum := "6dcf328ff656d8efe3f493abc45b8c1ec6d8cbe908d21758579d0c5822dff39e", func := "loop.example/g01023/laws.FnExactKnotsForWage", spec := "fnExactKnotsForWage", unfollowed := true, recurses := true, apart := false, narrowed := true }
def FnExactKnotsForWageUptoSaid : Prop := fnExactKnotsForWageUptoRow.holds Try.pinned (OpenSpec.upto fnExactKnotsForWageSpec)

/-- 'laws.FnExactWageOf', WHERE WHAT IT READS IS OF BULK AT MOST 1048576: true; the input reads as it did. -/
def fnExactWageOfUptoRow : OpenClaim := { program := "ytccpiiladdiocaa", sum := "6dcf328ff656d8efe3f493abc45b8c1ec6d8cbe908d21758579d0c5822dff39e", func := "loop.example/g01023/laws.FnExactWageOf", spec := "fnExactWageOf", unfollowed := true, recurses := true, apart := false, narrowed := true }
def FnExactWageOfUptoSaid : Prop := fnExactWageOfUptoRow.holds Try.pinned (OpenSpec.upto fnExactWageOfSpec)

/-- 'laws.FnExactAreSheets', WHERE WHAT IT READS IS OF BULK AT MOST 1048576: true; the input reads as it did. -/
def fnExactAreSheetsUptoRow : OpenClaim := { program := "ytccpiiladdiocaa", sum := "6dcf328ff656d8efe3f493abc45b8c1ec6d8cbe908d21758579d0c5822dff39e", func := "loop.example/g01023/laws.FnExactAreSheets", spec := "fnExactAreSheets", unfollowed := true, recurses := true, apart := false, narrowed := true }
def FnExactAreSheetsUptoSaid : Prop := fnExactAreSheetsUptoRow.holds Try.pinned (OpenSpec.upto fnExactAreSheetsSpec)

/-- 'laws.FnExactBestDayOf', WHERE WHAT IT READS IS OF BULK AT MOST 1048576: true; the input reads as it did. -/
def fnExactBestDayOfUptoRow : OpenClaim := { program := "ytccpiiladdiocaa", sum := "6dcf328ff656d8efe3f493abc45b8c1ec6d8cbe908d21758579d0c5822dff39e", func := "loop.example/g01023/laws.FnExactBestDayOf", spec := "fnExactBestDayOf", unfollowed := true, recurses := true, apart := false, narrowed := true }
def FnExactBestDayOfUptoSaid : Prop := fnExactBestDayOfUptoRow.holds Try.pinned (OpenSpec.upto fnExactBestDayOfSpec)

/-- 'laws.FnExactWagesBetween', WHERE WHAT IT READS IS OF BULK AT MOST 1048576: true; the input reads as it did. -/
def fnExactWagesBetweenUptoRow : OpenClaim := { program := "ytccpiiladdiocaa", sum := "6dcf328ff656d8efe3f493abc45b8c1ec6d8cbe908d21758579d0c5822dff39e", func := "loop.example/g01023/laws.FnExactWagesBetween", spec := "fnExactWagesBetween", unfollowed := true, recurses := true, apart := false, narrowed := true }
def FnExactWagesBetweenUptoSaid : Prop := fnExactWagesBetweenUptoRow.holds Try.pinned (OpenSpec.upto fnExactWagesBetweenSpec)

/-- 'laws.FnExactMissedBonus', WHERE WHAT IT READS IS OF BULK AT MOST 1048576: true; the input reads as it did. -/
def fnExactMissedBonusUptoRow : OpenClaim := { program := "ytccpiiladdiocaa", sum := "6dcf328ff656d8efe3f493abc45b8c1ec6d8cbe908d21758579d0c5822dff39e", func := "loop.example/g01023/laws.FnExactMissedBonus", spec := "fnExactMissedBonus", unfollowed := true, recurses := true, apart := false, narrowed := true }
def FnExactMissedBonusUptoSaid : Prop := fnExactMissedBonusUptoRow.holds Try.pinned (OpenSpec.upto fnExactMissedBonusSpec)

end Rows
end Go.Proofs.Ytccpiiladdiocaa
